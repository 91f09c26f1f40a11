/- Contracts of functions of the program: what each returns. Their conditions stand in them. -/
import Derived.Shelf.Strings.Builder1
import Derived.Shelf.Strings.Builder2
import Derived.Shelf.Strings.Trim
import Derived.Shelf.Small.Utf8
import Derived.Shelf.Small.Strs
import Derived.Shelf.Small.Wraps
import Derived.Shelf.Strings.BuilderF
import Derived.Shelf.Strconv.Atoi
import Derived.Shelf.Strconv.Itoa0
import Derived.Shelf.Strconv.Itoa1
import Derived.Shelf.LaysM
import Derived.Shelf.Strconv.Itoa2
import Derived.Shelf.Strconv.Itoa3
import Derived.Shelf.Strings.Search1
import Derived.Shelf.Strings.Search2
import Derived.Shelf.Strings.Cut
import Derived.Shelf.Strings.Shaped
import Derived.Shelf.Strings.Prefix
import Derived.Shelf.Strings.Runes
import Derived.Shelf.Strings.AsciiSet
import Derived.Shelf.Bits.Mul64
import Derived.Shelf.Strings.Repeat
import Derived.Shelf.Unicode.DecodeSlow
import Derived.Shelf.Slices.Turned
import Derived.Ground.Names2Prog
import Derived.Shelf.Slices.Delete
import Derived.Shelf.Slices.Cells
import Derived.Lib.ItoaNum
import Derived.Lib.Atoi
import Derived.Lib.Repeat
import Derived.Lib.Walk
import Derived.Lib.ItoaMem
import Derived.WalkKit
import Derived.BigCall
import Derived.BigGuard
import Derived.Lib.AppendIntMem
import Derived.Lib.ItoaLen
import Derived.Shelf.Strings.SlTrimAscii
import Derived.Test.YtmkagljofpddpaaGreatDoorProg
import Derived.Test.YtmkagljofpddpaaGreatDoorHIntegersa
open Array renaming replicate→ane,size_replicate→aoK,getElem?_modify→alx,length_toList→alY,getElem?_eq_none→alr,getD_eq_getD_getElem?→alz
open Bool renaming false_eq_true→amn,and_eq_true→alM,false_and→apn,true_and→apo
open Int renaming eq_ofNat_of_zero_le→an2,toNat→an8,toNat_natCast→anG,natCast_mul→an9,natCast_add→aoa,ofNat_dvd_left→aoT,natAbs_mul→aoV,natAbs_natCast→aoW,natAbs_neg→aoi,lt_or_gt_of_ne→aoX,sign_eq_one_of_pos→aoY,one_mul→aoZ,gcd→ao0,natCast_ediv→aol,dvd_neg→ao4,mul_pos→ao5,tdiv_eq_ediv_of_nonneg→ao8,tmod_eq_emod_of_nonneg→ao9,natCast_emod→anP,neg_mul→apg,add_mul_ediv_right→aph,add_mul_emod_self_right→apj,mul_comm→apk,mul_nonneg→apm,mul_le_mul_of_nonneg_left→aps,mul_nonpos_of_nonpos_of_nonneg→apt,emod_nonneg→apu,emod_lt_of_pos→apv,mul_le_mul→apw
open List renaming replicate→alL,append_assoc→aoH,length_append→amL,foldl_cons→aoI,length_cons→alj,mem_cons_of_mem→ani,map_append→aoL,getD_eq_getElem?_getD→alC,toArray→aoM,size_toArray→aoN,range→alA,range_succ→aoQ,length_eq_zero_iff→amT,length_drop→amJ,drop_zero→aoR,take_zero→aoS,length_take→amh,take_length→anH,isPrefixOf→ao2,length_pos_iff→aog,take_take→ao7,set_set→apl,take→aoz,drop→aoA,length_set→alZ,dropWhile_cons→apx,toList_toArray→apy
open Nat renaming pow_succ→anu,pow_pos→anx,mul_le_mul→amy,mul_assoc→anW,mod_eq_of_lt→alT,div_eq_of_lt→alR,zero_mul→amo,zero_add→alO,add_mul→al3,mul_comm→alP,strongRecOn→aoJ,mod_lt→al8,le_refl→alo,lt_or_ge→alq,beq→alI,eq_of_beq_eq_true→alN,div_add_mod→al7,pos_of_ne_zero→al5,pow_mul→aoO,pow_le_pow_left→aoP,pow_le_pow_right→anL,div_eq_zero_iff_lt→aob,pow_zero→aod,div_one→amb,le_trans→als,div_le_self→aon,lt_trans→aox,zero_le→aml,mul_le_mul_right→al2,lt_of_lt_of_le→alp,gcd_dvd_left→aoU,gcd_comm→aoG,gcd_one_right→ao1,gcd→aoF,le_of_lt→anZ,lt_of_le_of_lt→an4,gcd_dvd_right→ao3,sub_zero→ao6,min_eq_left→amd,le_antisymm→apa,mod_le→aoE,le_div_iff_mul_le→al9,lt_of_le_of_ne→apb,pow_add→anI,mul_lt_mul_of_lt_of_lt→aoc,mod_one→amc,cast→aoy,mul_le_mul_left→anS,div_div_eq_div_mul→ant,div_lt_iff_lt_mul→al6,mul_add→apc,sub_mul→apd,one_mul→al4,le_mul_of_pos_left→aow,lt_of_not_le→ape,le_min→apf,lt_mul_div_succ→aou,div_mul_le_self→aos,mul_lt_mul_of_pos_right→anT,le_mul_of_pos_right→amq,gcd_zero_right→apq,gcd_rec→apr,le_of_not_lt→aom
namespace Go.Proofs
open Go.Shelf
def Tryz.lays160_ren:Go.Shelf.Ren:=⟨λ|160=>224|232=>251|231=>250|227=>252|234=>254|233=>253|236=>256|235=>255|228=>271|271=>274|151=>273|197=>272|120=>289|152=>288|260=>287|137=>300|119=>301|224=>269|225=>268|217=>267|266=>285|n=>n,λ|9=>9|4=>4|3=>3|5=>5|117=>260|116=>259|0=>0|124=>263|21=>21|105=>275|46=>229|119=>301|139=>304|138=>303|n=>n,λ|3=>5|4=>6|n=>n⟩
theorem Tryz.lays160:Go.Proofs.Lays.n160 Tryz.prog Tryz.lays160_ren:={
 mixed:=by kernel_rfl
 f119:=Tryz.func301.trans (congrArg some (by kernel_rfl))
 f120:=Tryz.func289.trans (congrArg some (by kernel_rfl))
 f137:=Tryz.func300.trans (congrArg some (by kernel_rfl))
 f151:=Tryz.func273.trans (congrArg some (by kernel_rfl))
 f152:=Tryz.func288.trans (congrArg some (by kernel_rfl))
 f160:=Tryz.func224.trans (congrArg some (by kernel_rfl))
 f197:=Tryz.func272.trans (congrArg some (by kernel_rfl))
 f217:=Tryz.func267.trans (congrArg some (by kernel_rfl))
 f224:=Tryz.func269.trans (congrArg some (by kernel_rfl))
 f225:=Tryz.func268.trans (congrArg some (by kernel_rfl))
 f227:=Tryz.func252.trans (congrArg some (by kernel_rfl))
 f228:=Tryz.func271.trans (congrArg some (by kernel_rfl))
 f231:=Tryz.func250.trans (congrArg some (by kernel_rfl))
 f232:=Tryz.func251.trans (congrArg some (by kernel_rfl))
 f233:=Tryz.func253.trans (congrArg some (by kernel_rfl))
 f234:=Tryz.func254.trans (congrArg some (by kernel_rfl))
 f235:=Tryz.func255.trans (congrArg some (by kernel_rfl))
 f236:=Tryz.func256.trans (congrArg some (by kernel_rfl))
 f260:=Tryz.func287.trans (congrArg some (by kernel_rfl))
 f266:=Tryz.func285.trans (congrArg some (by kernel_rfl))
 f271:=Tryz.func274.trans (congrArg some (by kernel_rfl))
 t0:=Tryz.underlying0
 a0:=Tryz.isAgg0
 z0:=Tryz.sizeOf0
 v0:=Tryz.zeroValue0
 t3:=Tryz.underlying3
 a3:=Tryz.isAgg3
 z3:=Tryz.sizeOf3
 v3:=Tryz.zeroValue3
 t4:=Tryz.underlying4
 a4:=Tryz.isAgg4
 z4:=Tryz.sizeOf4
 v4:=Tryz.zeroValue4
 t5:=Tryz.underlying5
 a5:=Tryz.isAgg5
 z5:=Tryz.sizeOf5
 v5:=Tryz.zeroValue5
 t9:=Tryz.underlying9
 a9:=Tryz.isAgg9
 z9:=Tryz.sizeOf9
 v9:=Tryz.zeroValue9
 t21:=Tryz.underlying21
 a21:=Tryz.isAgg21
 z21:=Tryz.sizeOf21
 v21:=Tryz.zeroValue21
 t46:=Tryz.underlying229
 a46:=Tryz.isAgg229
 z46:=Tryz.sizeOf229
 v46:=Tryz.zeroValue229
 t105:=Tryz.underlying275
 a105:=Tryz.isAgg275
 z105:=Tryz.sizeOf275
 v105:=Tryz.zeroValue275
 t116:=Tryz.underlying259
 a116:=Tryz.isAgg259
 z116:=Tryz.sizeOf259
 t117:=Tryz.underlying260
 a117:=Tryz.isAgg260
 z117:=Tryz.sizeOf260
 v117:=Tryz.zeroValue260
 t119:=Tryz.underlying301
 a119:=Tryz.isAgg301
 z119:=Tryz.sizeOf301
 t124:=Tryz.underlying263
 a124:=Tryz.isAgg263
 z124:=Tryz.sizeOf263
 v124:=Tryz.zeroValue263
 t138:=Tryz.underlying303
 a138:=Tryz.isAgg303
 z138:=Tryz.sizeOf303
 v138:=Tryz.zeroValue303
 t139:=Tryz.underlying304
 a139:=Tryz.isAgg304
 z139:=Tryz.sizeOf304
 v139:=Tryz.zeroValue304
 g3:=by kernel_rfl
 g4:=by kernel_rfl}
def Tryz.lays103_ren:Go.Shelf.Ren:=⟨λ|103=>175|210=>222|206=>248|n=>n,λ|9=>9|4=>4|24=>197|3=>3|n=>n,λ|n=>n⟩
theorem Tryz.lays103:Go.Proofs.Lays.n103 Tryz.prog Tryz.lays103_ren:={
 mixed:=by kernel_rfl
 f103:=Tryz.func175.trans (congrArg some (by kernel_rfl))
 f206:=Tryz.func248.trans (congrArg some (by kernel_rfl))
 f210:=Tryz.func222.trans (congrArg some (by kernel_rfl))
 t3:=Tryz.underlying3
 a3:=Tryz.isAgg3
 z3:=Tryz.sizeOf3
 v3:=Tryz.zeroValue3
 t4:=Tryz.underlying4
 a4:=Tryz.isAgg4
 z4:=Tryz.sizeOf4
 v4:=Tryz.zeroValue4
 t9:=Tryz.underlying9
 a9:=Tryz.isAgg9
 z9:=Tryz.sizeOf9
 v9:=Tryz.zeroValue9
 t24:=Tryz.underlying197
 a24:=Tryz.isAgg197
 z24:=Tryz.sizeOf197
 v24:=Tryz.zeroValue197}
open Go.RowKit in
theorem Tryz.strings_CutPrefix (s p:ByteArray) (w:World):
 Calls Tryz.prog 175 #[.string s,.string p] w λe w'=>e=.returned (.tuple #[.string ⟨(Lib.trimPrefix s.data.toList p.data.toList).toArray⟩,.bool (Lib.hasPrefix s.data.toList p.data.toList)])/\w'=w:=Any.strings_CutPrefix Tryz.lays103 s p w
def Tryz.lays172_ren:Go.Shelf.Ren:=⟨λ|172=>228|244=>258|245=>259|247=>275|279=>276|280=>277|281=>278|282=>279|287=>290|316=>291|171=>261|205=>292|321=>302|322=>303|243=>280|246=>293|283=>294|284=>295|285=>296|286=>297|129=>266|317=>304|318=>305|319=>306|320=>307|337=>309|338=>310|n=>n,λ|9=>9|3=>3|75=>237|76=>238|4=>4|5=>5|167=>278|37=>270|0=>0|85=>279|2=>2|168=>281|53=>210|175=>288|46=>229|210=>292|127=>285|145=>309|143=>307|21=>21|171=>295|173=>297|212=>311|51=>252|20=>20|213=>312|232=>316|233=>317|80=>243|n=>n,λ|15=>3|16=>4|17=>7|18=>8|19=>9|n=>n⟩
theorem Tryz.lays172:Go.Proofs.Lays.n172 Tryz.prog Tryz.lays172_ren:={
 mixed:=by kernel_rfl
 f129:=Tryz.func266.trans (congrArg some (by kernel_rfl))
 f171:=Tryz.func261.trans (congrArg some (by kernel_rfl))
 f172:=Tryz.func228.trans (congrArg some (by kernel_rfl))
 f205:=Tryz.func292.trans (congrArg some (by kernel_rfl))
 f243:=Tryz.func280.trans (congrArg some (by kernel_rfl))
 f244:=Tryz.func258.trans (congrArg some (by kernel_rfl))
 f245:=Tryz.func259.trans (congrArg some (by kernel_rfl))
 f246:=Tryz.func293.trans (congrArg some (by kernel_rfl))
 f247:=Tryz.func275.trans (congrArg some (by kernel_rfl))
 f279:=Tryz.func276.trans (congrArg some (by kernel_rfl))
 f280:=Tryz.func277.trans (congrArg some (by kernel_rfl))
 f281:=Tryz.func278.trans (congrArg some (by kernel_rfl))
 f282:=Tryz.func279.trans (congrArg some (by kernel_rfl))
 f283:=Tryz.func294.trans (congrArg some (by kernel_rfl))
 f284:=Tryz.func295.trans (congrArg some (by kernel_rfl))
 f285:=Tryz.func296.trans (congrArg some (by kernel_rfl))
 f286:=Tryz.func297.trans (congrArg some (by kernel_rfl))
 f287:=Tryz.func290.trans (congrArg some (by kernel_rfl))
 f316:=Tryz.func291.trans (congrArg some (by kernel_rfl))
 f317:=Tryz.func304.trans (congrArg some (by kernel_rfl))
 f318:=Tryz.func305.trans (congrArg some (by kernel_rfl))
 f319:=Tryz.func306.trans (congrArg some (by kernel_rfl))
 f320:=Tryz.func307.trans (congrArg some (by kernel_rfl))
 f321:=Tryz.func302.trans (congrArg some (by kernel_rfl))
 f322:=Tryz.func303.trans (congrArg some (by kernel_rfl))
 f337:=Tryz.func309.trans (congrArg some (by kernel_rfl))
 f338:=Tryz.func310.trans (congrArg some (by kernel_rfl))
 t0:=Tryz.underlying0
 a0:=Tryz.isAgg0
 z0:=Tryz.sizeOf0
 v0:=Tryz.zeroValue0
 t2:=Tryz.underlying2
 a2:=Tryz.isAgg2
 z2:=Tryz.sizeOf2
 v2:=Tryz.zeroValue2
 t3:=Tryz.underlying3
 a3:=Tryz.isAgg3
 z3:=Tryz.sizeOf3
 v3:=Tryz.zeroValue3
 t4:=Tryz.underlying4
 a4:=Tryz.isAgg4
 z4:=Tryz.sizeOf4
 v4:=Tryz.zeroValue4
 t5:=Tryz.underlying5
 a5:=Tryz.isAgg5
 z5:=Tryz.sizeOf5
 v5:=Tryz.zeroValue5
 t9:=Tryz.underlying9
 a9:=Tryz.isAgg9
 z9:=Tryz.sizeOf9
 v9:=Tryz.zeroValue9
 t20:=Tryz.underlying20
 a20:=Tryz.isAgg20
 z20:=Tryz.sizeOf20
 v20:=Tryz.zeroValue20
 t21:=Tryz.underlying21
 a21:=Tryz.isAgg21
 z21:=Tryz.sizeOf21
 v21:=Tryz.zeroValue21
 t37:=Tryz.underlying270
 a37:=Tryz.isAgg270
 z37:=Tryz.sizeOf270
 v37:=Tryz.zeroValue270
 t46:=Tryz.underlying229
 a46:=Tryz.isAgg229
 z46:=Tryz.sizeOf229
 v46:=Tryz.zeroValue229
 t51:=Tryz.underlying252
 a51:=Tryz.isAgg252
 z51:=Tryz.sizeOf252
 v51:=Tryz.zeroValue252
 t53:=Tryz.underlying210
 a53:=Tryz.isAgg210
 z53:=Tryz.sizeOf210
 v53:=Tryz.zeroValue210
 t75:=Tryz.underlying237
 a75:=Tryz.isAgg237
 z75:=Tryz.sizeOf237
 v75:=Tryz.zeroValue237
 t76:=Tryz.underlying238
 a76:=Tryz.isAgg238
 z76:=Tryz.sizeOf238
 v76:=Tryz.zeroValue238
 t85:=Tryz.underlying279
 a85:=Tryz.isAgg279
 z85:=Tryz.sizeOf279
 v85:=Tryz.zeroValue279
 t127:=Tryz.underlying285
 a127:=Tryz.isAgg285
 z127:=Tryz.sizeOf285
 v127:=Tryz.zeroValue285
 t143:=Tryz.underlying307
 a143:=Tryz.isAgg307
 z143:=Tryz.sizeOf307
 v143:=Tryz.zeroValue307
 t145:=Tryz.underlying309
 a145:=Tryz.isAgg309
 z145:=Tryz.sizeOf309
 v145:=Tryz.zeroValue309
 t167:=Tryz.underlying278
 a167:=Tryz.isAgg278
 z167:=Tryz.sizeOf278
 v167:=Tryz.zeroValue278
 t168:=Tryz.underlying281
 a168:=Tryz.isAgg281
 z168:=Tryz.sizeOf281
 v168:=Tryz.zeroValue281
 t171:=Tryz.underlying295
 a171:=Tryz.isAgg295
 z171:=Tryz.sizeOf295
 v171:=Tryz.zeroValue295
 t173:=Tryz.underlying297
 a173:=Tryz.isAgg297
 z173:=Tryz.sizeOf297
 v173:=Tryz.zeroValue297
 t175:=Tryz.underlying288
 a175:=Tryz.isAgg288
 z175:=Tryz.sizeOf288
 v175:=Tryz.zeroValue288
 t210:=Tryz.underlying292
 a210:=Tryz.isAgg292
 z210:=Tryz.sizeOf292
 v210:=Tryz.zeroValue292
 t212:=Tryz.underlying311
 a212:=Tryz.isAgg311
 z212:=Tryz.sizeOf311
 v212:=Tryz.zeroValue311
 t213:=Tryz.underlying312
 a213:=Tryz.isAgg312
 z213:=Tryz.sizeOf312
 t232:=Tryz.underlying316
 a232:=Tryz.isAgg316
 z232:=Tryz.sizeOf316
 v232:=Tryz.zeroValue316
 t233:=Tryz.underlying317
 a233:=Tryz.isAgg317
 z233:=Tryz.sizeOf317
 v233:=Tryz.zeroValue317
 g15:=by kernel_rfl
 g16:=by kernel_rfl
 g17:=by kernel_rfl
 g18:=by kernel_rfl
 g19:=by kernel_rfl}
open Go.RowKit in
theorem Tryz.strconv_Atoi (s:ByteArray) (n:Int) (hl:s.size≤18) (h:Lib.atoi s.data.toList=some n) (w:World):
 Calls Tryz.prog 228 #[.string s] w λe w'=>e=.returned (.tuple #[.int .i64 n,.nilIface])/\∃t,w'=Lib.bytesWorld w 5 t:=Any.strconv_Atoi Tryz.lays172 s n hl h w
def Tryz.lays283_ren:Go.Shelf.Ren:=⟨λ|283=>294|n=>n,λ|3=>3|9=>9|4=>4|n=>n,λ|n=>n⟩
theorem Tryz.lays283:Go.Proofs.Lays.n283 Tryz.prog Tryz.lays283_ren:={
 mixed:=by kernel_rfl
 f283:=Tryz.func294.trans (congrArg some (by kernel_rfl))
 t3:=Tryz.underlying3
 a3:=Tryz.isAgg3
 z3:=Tryz.sizeOf3
 v3:=Tryz.zeroValue3
 t4:=Tryz.underlying4
 a4:=Tryz.isAgg4
 z4:=Tryz.sizeOf4
 v4:=Tryz.zeroValue4
 t9:=Tryz.underlying9
 a9:=Tryz.isAgg9
 z9:=Tryz.sizeOf9
 v9:=Tryz.zeroValue9}
open Go.Lib in
theorem Tryz.internal_strconv_small (i:Nat) (h:i<100) (w:World):
 Calls Tryz.prog 294 #[.int .i64 i] w λe w'=>e=.returned (.string ⟨(Lib.decDigits i).toArray⟩)/\w'=w:=Any.internal_strconv_small Tryz.lays283 i h w
def Tryz.laysM284_ren:Go.Shelf.Ren:=⟨λ|284=>295|129=>266|317=>304|318=>305|n=>n,λ|53=>210|3=>3|212=>311|0=>0|4=>4|46=>229|5=>5|9=>9|n=>n,λ|17=>7|n=>n⟩
theorem Tryz.laysM284:Go.Proofs.LaysM.n284 Tryz.prog Tryz.laysM284_ren:={
 mixed:=by kernel_rfl
 f129:=Tryz.func266.trans (congrArg some (by kernel_rfl))
 f284:=Tryz.func295.trans (congrArg some (by kernel_rfl))
 f317:=Tryz.func304.trans (congrArg some (by kernel_rfl))
 f318:=Tryz.func305.trans (congrArg some (by kernel_rfl))
 t0:=Tryz.underlying0
 a0:=Tryz.isAgg0
 z0:=Tryz.sizeOf0
 v0:=Tryz.zeroValue0
 t3:=Tryz.underlying3
 a3:=Tryz.isAgg3
 z3:=Tryz.sizeOf3
 v3:=Tryz.zeroValue3
 t4:=Tryz.underlying4
 a4:=Tryz.isAgg4
 z4:=Tryz.sizeOf4
 v4:=Tryz.zeroValue4
 t5:=Tryz.underlying5
 a5:=Tryz.isAgg5
 z5:=Tryz.sizeOf5
 v5:=Tryz.zeroValue5
 t9:=Tryz.underlying9
 a9:=Tryz.isAgg9
 z9:=Tryz.sizeOf9
 v9:=Tryz.zeroValue9
 t46:=Tryz.underlying229
 a46:=Tryz.isAgg229
 z46:=Tryz.sizeOf229
 v46:=Tryz.zeroValue229
 t53:=Tryz.underlying210
 a53:=Tryz.isAgg210
 z53:=Tryz.sizeOf210
 v53:=Tryz.zeroValue210
 t212:=Tryz.underlying311
 a212:=Tryz.isAgg311
 z212:=Tryz.sizeOf311
 v212:=Tryz.zeroValue311
 g17:=by kernel_rfl
 i0:=by kernel_rfl
 i3:=by kernel_rfl
 i4:=by kernel_rfl
 i5:=by kernel_rfl
 i9:=by kernel_rfl
 i46:=by kernel_rfl
 i53:=by kernel_rfl
 i212:=by kernel_rfl
 m17:=by kernel_rfl}
open Go.Lib in
theorem Tryz.internal_strconv_numDigits (u:Nat) (h1:1≤u) (h2:u<18446744073709551616) (w:World) (htab:Lib.TabIs Tryz.prog w "internal/strconv.uint64pow10" .u64 Lib.pow10Tab):
 Calls Tryz.prog 295 #[.int .u64 u] w λe w'=>e=.returned (.int .i64 (Lib.nDigits u))/\w'=w:=Any.internal_strconv_numDigits Tryz.laysM284 u h1 h2 w htab
def Tryz.lays285_ren:Go.Shelf.Ren:=⟨λ|285=>296|n=>n,λ|37=>270|53=>210|3=>3|4=>4|51=>252|9=>9|5=>5|0=>0|n=>n,λ|n=>n⟩
theorem Tryz.lays285:Go.Proofs.Lays.n285 Tryz.prog Tryz.lays285_ren:={
 mixed:=by kernel_rfl
 f285:=Tryz.func296.trans (congrArg some (by kernel_rfl))
 t0:=Tryz.underlying0
 a0:=Tryz.isAgg0
 z0:=Tryz.sizeOf0
 v0:=Tryz.zeroValue0
 t3:=Tryz.underlying3
 a3:=Tryz.isAgg3
 z3:=Tryz.sizeOf3
 v3:=Tryz.zeroValue3
 t4:=Tryz.underlying4
 a4:=Tryz.isAgg4
 z4:=Tryz.sizeOf4
 v4:=Tryz.zeroValue4
 t5:=Tryz.underlying5
 a5:=Tryz.isAgg5
 z5:=Tryz.sizeOf5
 v5:=Tryz.zeroValue5
 t9:=Tryz.underlying9
 a9:=Tryz.isAgg9
 z9:=Tryz.sizeOf9
 v9:=Tryz.zeroValue9
 t37:=Tryz.underlying270
 a37:=Tryz.isAgg270
 z37:=Tryz.sizeOf270
 v37:=Tryz.zeroValue270
 t51:=Tryz.underlying252
 a51:=Tryz.isAgg252
 z51:=Tryz.sizeOf252
 v51:=Tryz.zeroValue252
 t53:=Tryz.underlying210
 a53:=Tryz.isAgg210
 z53:=Tryz.sizeOf210
 v53:=Tryz.zeroValue210}
open Go.RowKit Go.Sort Go.Lib in
theorem Tryz.internal_strconv_formatBase10 (blk off cap:Nat) (u:Nat) (d:Array UInt8) (w:World) (hH:Holds (λ(b:UInt8)=>Value.int .u8 (b.toNat:Int)) w blk off d) (hu:u<10 ^ d.size) (hu64:u<18446744073709551616) (hsz:d.size<4611686018427387904):
 Calls Tryz.prog 296 #[.slice (some ⟨blk,off,none⟩) d.size cap,.int .u64 u] w λe w'=>
  e=.returned (.tuple #[])/\∃(n v':Nat) (dk:Array UInt8),w'=(putRow (λ(b:UInt8)=>Value.int .u8 (b.toNat:Int)) w blk off dk).drewN n/\FmtInv d.size u 0 v' dk:=Any.internal_strconv_formatBase10 Tryz.lays285 blk off cap u d w hH hu hu64 hsz
def Tryz.laysM171_ren:Go.Shelf.Ren:=⟨λ|171=>261|243=>280|246=>293|283=>294|284=>295|285=>296|286=>297|129=>266|317=>304|318=>305|319=>306|320=>307|337=>309|338=>310|n=>n,λ|3=>3|9=>9|2=>2|4=>4|171=>295|0=>0|53=>210|37=>270|5=>5|173=>297|212=>311|51=>252|20=>20|213=>312|46=>229|232=>316|233=>317|n=>n,λ|17=>7|18=>8|19=>9|n=>n⟩
theorem Tryz.laysM171:Go.Proofs.LaysM.n171 Tryz.prog Tryz.laysM171_ren:={
 mixed:=by kernel_rfl
 f129:=Tryz.func266.trans (congrArg some (by kernel_rfl))
 f171:=Tryz.func261.trans (congrArg some (by kernel_rfl))
 f243:=Tryz.func280.trans (congrArg some (by kernel_rfl))
 f246:=Tryz.func293.trans (congrArg some (by kernel_rfl))
 f283:=Tryz.func294.trans (congrArg some (by kernel_rfl))
 f284:=Tryz.func295.trans (congrArg some (by kernel_rfl))
 f285:=Tryz.func296.trans (congrArg some (by kernel_rfl))
 f286:=Tryz.func297.trans (congrArg some (by kernel_rfl))
 f317:=Tryz.func304.trans (congrArg some (by kernel_rfl))
 f318:=Tryz.func305.trans (congrArg some (by kernel_rfl))
 f319:=Tryz.func306.trans (congrArg some (by kernel_rfl))
 f320:=Tryz.func307.trans (congrArg some (by kernel_rfl))
 f337:=Tryz.func309.trans (congrArg some (by kernel_rfl))
 f338:=Tryz.func310.trans (congrArg some (by kernel_rfl))
 t0:=Tryz.underlying0
 a0:=Tryz.isAgg0
 z0:=Tryz.sizeOf0
 v0:=Tryz.zeroValue0
 t2:=Tryz.underlying2
 a2:=Tryz.isAgg2
 z2:=Tryz.sizeOf2
 v2:=Tryz.zeroValue2
 t3:=Tryz.underlying3
 a3:=Tryz.isAgg3
 z3:=Tryz.sizeOf3
 v3:=Tryz.zeroValue3
 t4:=Tryz.underlying4
 a4:=Tryz.isAgg4
 z4:=Tryz.sizeOf4
 v4:=Tryz.zeroValue4
 t5:=Tryz.underlying5
 a5:=Tryz.isAgg5
 z5:=Tryz.sizeOf5
 v5:=Tryz.zeroValue5
 t9:=Tryz.underlying9
 a9:=Tryz.isAgg9
 z9:=Tryz.sizeOf9
 v9:=Tryz.zeroValue9
 t20:=Tryz.underlying20
 a20:=Tryz.isAgg20
 z20:=Tryz.sizeOf20
 v20:=Tryz.zeroValue20
 t37:=Tryz.underlying270
 a37:=Tryz.isAgg270
 z37:=Tryz.sizeOf270
 v37:=Tryz.zeroValue270
 t46:=Tryz.underlying229
 a46:=Tryz.isAgg229
 z46:=Tryz.sizeOf229
 v46:=Tryz.zeroValue229
 t51:=Tryz.underlying252
 a51:=Tryz.isAgg252
 z51:=Tryz.sizeOf252
 v51:=Tryz.zeroValue252
 t53:=Tryz.underlying210
 a53:=Tryz.isAgg210
 z53:=Tryz.sizeOf210
 v53:=Tryz.zeroValue210
 t171:=Tryz.underlying295
 a171:=Tryz.isAgg295
 z171:=Tryz.sizeOf295
 v171:=Tryz.zeroValue295
 t173:=Tryz.underlying297
 a173:=Tryz.isAgg297
 z173:=Tryz.sizeOf297
 v173:=Tryz.zeroValue297
 t212:=Tryz.underlying311
 a212:=Tryz.isAgg311
 z212:=Tryz.sizeOf311
 v212:=Tryz.zeroValue311
 t213:=Tryz.underlying312
 a213:=Tryz.isAgg312
 z213:=Tryz.sizeOf312
 t232:=Tryz.underlying316
 a232:=Tryz.isAgg316
 z232:=Tryz.sizeOf316
 v232:=Tryz.zeroValue316
 t233:=Tryz.underlying317
 a233:=Tryz.isAgg317
 z233:=Tryz.sizeOf317
 v233:=Tryz.zeroValue317
 g17:=by kernel_rfl
 g18:=by kernel_rfl
 g19:=by kernel_rfl
 i0:=by kernel_rfl
 i2:=by kernel_rfl
 i3:=by kernel_rfl
 i4:=by kernel_rfl
 i5:=by kernel_rfl
 i9:=by kernel_rfl
 i20:=by kernel_rfl
 i37:=by kernel_rfl
 i46:=by kernel_rfl
 i51:=by kernel_rfl
 i53:=by kernel_rfl
 i171:=by kernel_rfl
 i173:=by kernel_rfl
 i212:=by kernel_rfl
 i232:=by kernel_rfl
 i233:=by kernel_rfl
 m17:=by kernel_rfl
 m18:=by kernel_rfl
 m19:=by kernel_rfl}
open Go.RowKit Go.Sort Go.Lib in
theorem Tryz.strconv_Itoa (n:Int) (h0: -9223372036854775808≤n) (h1:n≤9223372036854775807) (w:World) (htab:Lib.TabIs Tryz.prog w "internal/strconv.uint64pow10" .u64 Lib.pow10Tab):
 Calls Tryz.prog 261 #[.int .i64 n] w λe w'=>e=.returned (.string ⟨(Lib.itoa n).toArray⟩)/\∃k os,w'=grow (w.drewN k) os:=Any.strconv_Itoa Tryz.laysM171 n h0 h1 w htab
def Tryz.lays219_ren:Go.Shelf.Ren:=⟨λ|219=>249|217=>267|225=>268|224=>269|267=>270|266=>285|314=>286|n=>n,λ|9=>9|3=>3|4=>4|5=>5|46=>229|146=>253|51=>252|n=>n,λ|1=>2|n=>n⟩
theorem Tryz.lays219:Go.Proofs.Lays.n219 Tryz.prog Tryz.lays219_ren:={
 mixed:=by kernel_rfl
 f217:=Tryz.func267.trans (congrArg some (by kernel_rfl))
 f219:=Tryz.func249.trans (congrArg some (by kernel_rfl))
 f224:=Tryz.func269.trans (congrArg some (by kernel_rfl))
 f225:=Tryz.func268.trans (congrArg some (by kernel_rfl))
 f266:=Tryz.func285.trans (congrArg some (by kernel_rfl))
 f267:=Tryz.func270.trans (congrArg some (by kernel_rfl))
 f314:=Tryz.func286.trans (congrArg some (by kernel_rfl))
 t3:=Tryz.underlying3
 a3:=Tryz.isAgg3
 z3:=Tryz.sizeOf3
 v3:=Tryz.zeroValue3
 t4:=Tryz.underlying4
 a4:=Tryz.isAgg4
 z4:=Tryz.sizeOf4
 v4:=Tryz.zeroValue4
 t5:=Tryz.underlying5
 a5:=Tryz.isAgg5
 z5:=Tryz.sizeOf5
 v5:=Tryz.zeroValue5
 t9:=Tryz.underlying9
 a9:=Tryz.isAgg9
 z9:=Tryz.sizeOf9
 v9:=Tryz.zeroValue9
 t46:=Tryz.underlying229
 a46:=Tryz.isAgg229
 z46:=Tryz.sizeOf229
 v46:=Tryz.zeroValue229
 t51:=Tryz.underlying252
 a51:=Tryz.isAgg252
 z51:=Tryz.sizeOf252
 v51:=Tryz.zeroValue252
 t146:=Tryz.underlying253
 a146:=Tryz.isAgg253
 z146:=Tryz.sizeOf253
 v146:=Tryz.zeroValue253
 g1:=by kernel_rfl}
open Go.RowKit Go.Lib in
theorem Tryz.stringslite_Index_one (s:ByteArray) (c:UInt8) (w:World):
 Calls Tryz.prog 249 #[.string s,.string ⟨#[c]⟩] w λe w'=>e=.returned (.int .i64 (Lib.indexByte s.data.toList c))/\w'=w:=Any.stringslite_Index_one Tryz.lays219 s c w
def Tryz.lays99_ren:Go.Shelf.Ren:=⟨λ|99=>226|206=>248|n=>n,λ|9=>9|4=>4|3=>3|n=>n,λ|n=>n⟩
theorem Tryz.lays99:Go.Proofs.Lays.n99 Tryz.prog Tryz.lays99_ren:={
 mixed:=by kernel_rfl
 f99:=Tryz.func226.trans (congrArg some (by kernel_rfl))
 f206:=Tryz.func248.trans (congrArg some (by kernel_rfl))
 t3:=Tryz.underlying3
 a3:=Tryz.isAgg3
 z3:=Tryz.sizeOf3
 v3:=Tryz.zeroValue3
 t4:=Tryz.underlying4
 a4:=Tryz.isAgg4
 z4:=Tryz.sizeOf4
 v4:=Tryz.zeroValue4
 t9:=Tryz.underlying9
 a9:=Tryz.isAgg9
 z9:=Tryz.sizeOf9
 v9:=Tryz.zeroValue9}
open Go.RowKit Go.Lib in
theorem Tryz.strings_HasPrefix (s p:ByteArray) (w:World):
 Calls Tryz.prog 226 #[.string s,.string p] w λe w'=>e=.returned (.bool (Lib.hasPrefix s.data.toList p.data.toList))/\w'=w:=Any.strings_HasPrefix Tryz.lays99 s p w
def Tryz.lays101_ren:Go.Shelf.Ren:=⟨λ|101=>227|208=>257|206=>248|n=>n,λ|9=>9|4=>4|3=>3|n=>n,λ|n=>n⟩
theorem Tryz.lays101:Go.Proofs.Lays.n101 Tryz.prog Tryz.lays101_ren:={
 mixed:=by kernel_rfl
 f101:=Tryz.func227.trans (congrArg some (by kernel_rfl))
 f206:=Tryz.func248.trans (congrArg some (by kernel_rfl))
 f208:=Tryz.func257.trans (congrArg some (by kernel_rfl))
 t3:=Tryz.underlying3
 a3:=Tryz.isAgg3
 z3:=Tryz.sizeOf3
 v3:=Tryz.zeroValue3
 t4:=Tryz.underlying4
 a4:=Tryz.isAgg4
 z4:=Tryz.sizeOf4
 v4:=Tryz.zeroValue4
 t9:=Tryz.underlying9
 a9:=Tryz.isAgg9
 z9:=Tryz.sizeOf9
 v9:=Tryz.zeroValue9}
open Go.RowKit Go.Lib in
theorem Tryz.strings_TrimPrefix (s p:ByteArray) (w:World):
 Calls Tryz.prog 227 #[.string s,.string p] w λe w'=>e=.returned (.string ⟨(Lib.trimPrefix s.data.toList p.data.toList).toArray⟩)/\w'=w:=Any.strings_TrimPrefix Tryz.lays101 s p w
def Tryz.lays105_ren:Go.Shelf.Ren:=⟨λ|105=>263|212=>219|99=>226|165=>282|166=>264|170=>283|169=>265|263=>246|264=>189|206=>248|240=>284|241=>298|276=>299|277=>308|n=>n,λ|9=>9|3=>3|4=>4|20=>20|0=>0|46=>229|109=>230|5=>5|72=>272|76=>238|51=>252|146=>253|53=>210|148=>211|70=>269|37=>270|75=>237|127=>285|164=>299|80=>243|n=>n,λ|n=>n⟩
theorem Tryz.lays105:Go.Proofs.Lays.n105 Tryz.prog Tryz.lays105_ren:={
 mixed:=by kernel_rfl
 f99:=Tryz.func226.trans (congrArg some (by kernel_rfl))
 f105:=Tryz.func263.trans (congrArg some (by kernel_rfl))
 f165:=Tryz.func282.trans (congrArg some (by kernel_rfl))
 f166:=Tryz.func264.trans (congrArg some (by kernel_rfl))
 f169:=Tryz.func265.trans (congrArg some (by kernel_rfl))
 f170:=Tryz.func283.trans (congrArg some (by kernel_rfl))
 f206:=Tryz.func248.trans (congrArg some (by kernel_rfl))
 f212:=Tryz.func219.trans (congrArg some (by kernel_rfl))
 f240:=Tryz.func284.trans (congrArg some (by kernel_rfl))
 f241:=Tryz.func298.trans (congrArg some (by kernel_rfl))
 f263:=Tryz.func246.trans (congrArg some (by kernel_rfl))
 f264:=Tryz.func189.trans (congrArg some (by kernel_rfl))
 f276:=Tryz.func299.trans (congrArg some (by kernel_rfl))
 f277:=Tryz.func308.trans (congrArg some (by kernel_rfl))
 t0:=Tryz.underlying0
 a0:=Tryz.isAgg0
 z0:=Tryz.sizeOf0
 v0:=Tryz.zeroValue0
 t3:=Tryz.underlying3
 a3:=Tryz.isAgg3
 z3:=Tryz.sizeOf3
 v3:=Tryz.zeroValue3
 t4:=Tryz.underlying4
 a4:=Tryz.isAgg4
 z4:=Tryz.sizeOf4
 v4:=Tryz.zeroValue4
 t5:=Tryz.underlying5
 a5:=Tryz.isAgg5
 z5:=Tryz.sizeOf5
 v5:=Tryz.zeroValue5
 t9:=Tryz.underlying9
 a9:=Tryz.isAgg9
 z9:=Tryz.sizeOf9
 v9:=Tryz.zeroValue9
 t20:=Tryz.underlying20
 a20:=Tryz.isAgg20
 z20:=Tryz.sizeOf20
 v20:=Tryz.zeroValue20
 t37:=Tryz.underlying270
 a37:=Tryz.isAgg270
 z37:=Tryz.sizeOf270
 v37:=Tryz.zeroValue270
 t46:=Tryz.underlying229
 a46:=Tryz.isAgg229
 z46:=Tryz.sizeOf229
 v46:=Tryz.zeroValue229
 t51:=Tryz.underlying252
 a51:=Tryz.isAgg252
 z51:=Tryz.sizeOf252
 v51:=Tryz.zeroValue252
 t53:=Tryz.underlying210
 a53:=Tryz.isAgg210
 z53:=Tryz.sizeOf210
 v53:=Tryz.zeroValue210
 t70:=Tryz.underlying269
 a70:=Tryz.isAgg269
 z70:=Tryz.sizeOf269
 v70:=Tryz.zeroValue269
 t72:=Tryz.underlying272
 a72:=Tryz.isAgg272
 z72:=Tryz.sizeOf272
 v72:=Tryz.zeroValue272
 t75:=Tryz.underlying237
 a75:=Tryz.isAgg237
 z75:=Tryz.sizeOf237
 v75:=Tryz.zeroValue237
 t76:=Tryz.underlying238
 a76:=Tryz.isAgg238
 z76:=Tryz.sizeOf238
 v76:=Tryz.zeroValue238
 t109:=Tryz.underlying230
 a109:=Tryz.isAgg230
 z109:=Tryz.sizeOf230
 v109:=Tryz.zeroValue230
 t127:=Tryz.underlying285
 a127:=Tryz.isAgg285
 z127:=Tryz.sizeOf285
 v127:=Tryz.zeroValue285
 t146:=Tryz.underlying253
 a146:=Tryz.isAgg253
 z146:=Tryz.sizeOf253
 v146:=Tryz.zeroValue253
 t148:=Tryz.underlying211
 a148:=Tryz.isAgg211
 z148:=Tryz.sizeOf211
 v148:=Tryz.zeroValue211
 t164:=Tryz.underlying299
 a164:=Tryz.isAgg299
 z164:=Tryz.sizeOf299
 v164:=Tryz.zeroValue299}
theorem Tryz.Builder_Extra_105:Builder.Extra Tryz.prog Tryz.lays105_ren:={
 sizeBuilder:=by kernel_rfl
 liesBuilder:=by kernel_rfl
 t5:=Tryz.underlying5
 a5:=Tryz.isAgg5
 z5:=Tryz.sizeOf5
 v5:=Tryz.zeroValue5
 infoByte:=by kernel_rfl
 cellsByte:=by kernel_rfl
 sizeByte:=by kernel_rfl
 neB5:=by decide}
open Go.RowKit Go.Lib in
theorem Tryz.strings_Repeat (s:ByteArray) (c:Nat) (w:World) (hc:c≤9223372036854775807) (hlen:s.size*c≤140737488355328):
 Calls Tryz.prog 263 #[.string s,.int .i64 c] w λe w'=>e=.returned (.string ⟨(Lib.repeatL s.data.toList c).toArray⟩)/\Below w.heap.size w w':=Any.strings_Repeat Tryz.lays105 Tryz.Builder_Extra_105 s c w hc hlen
end Go.Proofs
namespace Go.Eng.Dec
open Go.Lib
set_option linter.unusedSimpArgs false
set_option linter.unusedVariables false
abbrev dgc (d:Nat):UInt8:=UInt8.ofNat (48+d)
def iM:Nat->Nat->List UInt8
 |0,_=>[]
 |n+1,b=>iM n (b / 10)++[dgc (b % 10)]
theorem zX:∀n b,(iM n b).length=n:=by
 intro n;induction n with
 |zero=>intro b;rfl
 |succ n ih=>intro b;simp[iM,ih]
theorem Ux:∀n,iM n 0=alL n 48:=by
 intro n;induction n with
 |zero=>rfl
 |succ n ih=>rw[iM,Nat.zero_div,ih,List.replicate_succ'];rfl
theorem dec_lt {u:Nat} (h:u<10):decDigits u=[dgc u]:=by rw[decDigits,dif_pos h]
theorem qA {u:Nat} (h:¬u<10):decDigits u=decDigits (u / 10)++[dgc (u % 10)]:=by rw[decDigits,dif_neg h]
theorem wW {a:Nat} (ha:0<a):∀(m b:Nat),b<10 ^ m->decDigits (a*10 ^ m+b)=decDigits a++iM m b:=by
 intro m;induction m with
 |zero=>intro b hb;have:b=0:=by simpa using hb
        subst this;simp[iM]
 |succ m ih=>
  intro b hb;rw[anu]at hb⊢;have hp:0<10 ^ m:=anx qqO;have h1:1*1≤a*10 ^ m:=amy ha hp;have e:a*(10 ^ m*10)=(a*10 ^ m)*10:=by rw[anW]
  rw[e,qA qqO,iM,<-aoH,<-ih (b / 10) qqO];rw[show(a*10 ^ m*10+b) / 10=a*10 ^ m+b / 10 by omega,show(a*10 ^ m*10+b) % 10=b % 10 by omega]
theorem mK:∀(n b:Nat),b<10 ^ (n+1)->(decDigits b).length≤n+1:=by
 intro n;induction n with
 |zero=>intro b hb;rw[dec_lt (by simpa using hb)];simp
 |succ n ih=>
  intro b hb;by_cases h:b<10
  ·rw[dec_lt h];simp
  ·rw[qA h,amL]
   have:=ih (b / 10) (by rw[anu]at hb;omega)
   simp;omega
theorem jW (b:Nat):0<(decDigits b).length:=by
 by_cases h:b<10
 ·rw[dec_lt h];simp
 ·rw[qA h];simp
theorem Nf:∀(n b:Nat),b<10 ^ (n+1)->iM (n+1) b=alL (n+1-(decDigits b).length) 48++decDigits b:=by
 intro n;induction n with
 |zero=>
  intro b hb;have h:b<10:=by simpa using hb
  rw[dec_lt h,iM,iM,alT h];rfl
 |succ n ih=>
  intro b hb;rw[iM];by_cases h:b<10
  ·rw[alR h,Ux,dec_lt h,alT h]
   simp
  ·have h1:b / 10<10 ^ (n+1):=by rw[anu 10 (n+1)]at hb;omega
   rw[ih (b / 10) h1,qA h,amL,<-aoH];simp
def vF (a:Nat) (b:UInt8):Nat:=a*10+(b.toNat-48)
def vD (l:List UInt8):Nat:=l.foldl vF 0
def isD (l:List UInt8):Prop:=∀b∈l,48≤b.toNat/\b.toNat≤57
theorem ad6 (l:List UInt8):∀a,l.foldl vF a=a*10 ^ l.length+vD l:=by
 induction l with
 |nil=>intro a;simp[vD]
 |cons b r ih=>
  intro a;unfold vD;rw[aoI,aoI,ih,ih (vF 0 b),alj,anu];unfold vF;rw[amo,alO,al3,anW,alP 10];omega
theorem CB (l m:List UInt8):vD (l++m)=vD l*10 ^ m.length+vD m:=by
 unfold vD;rw[List.foldl_append,ad6 m];rfl
theorem wX (b:UInt8):vD [b]=b.toNat-48:=by simp[vD,vF]
theorem oC {d:Nat} (h:d<10):(dgc d).toNat=48+d:=by
 show(UInt8.ofNat (48+d)).toNat=_;simp;omega
theorem Uy (x:Nat):vD (decDigits x)=x:=by
 induction x using aoJ with
 |ind x ih=>
  by_cases h:x<10
  ·rw[dec_lt h,wX,oC h];omega
  ·rw[qA h,CB,ih (x / 10) qqO,wX,oC (al8 _ qqO)]
   simp;omega
theorem Ng {l m:List UInt8}:isD (l++m)↔isD l/\isD m:=by
 unfold isD;constructor
 ·exact λh=>⟨λb hb=>h b (List.mem_append_left _ hb),λb hb=>h b (List.mem_append_right _ hb)⟩
 ·rintro⟨h1,h2⟩ b hb
  rcases List.mem_append.1 hb with h|h
  ·exact h1 b h
  ·exact h2 b h
theorem Nh {d:Nat} (h:d<10):isD [dgc d]:=by
 intro b hb;rw[List.mem_singleton.1 hb,oC h];omega
theorem sF (x:Nat):isD (decDigits x):=by
 induction x using aoJ with
 |ind x ih=>
  by_cases h:x<10
  ·rw[dec_lt h];exact Nh h
  ·rw[qA h,Ng];exact⟨ih _ qqO,Nh (al8 _ qqO)⟩
theorem Uz {b:UInt8} (h:48≤b.toNat/\b.toNat≤57):b=dgc (b.toNat-48):=by
 apply UInt8.toNat_inj.1;rw[oC qqO];omega
theorem Yf (x:Nat) (h0:x≠0):∃b r,decDigits x=b::r/\b≠48:=by
 induction x using aoJ with
 |ind x ih=>
  by_cases h:x<10
  ·refine⟨dgc x,[],dec_lt h,λe=>?_⟩
   have:=congrArg UInt8.toNat e;rw[oC h]at this;simp at this;omega
  ·obtain⟨b,r,e,hb⟩:=ih (x / 10) qqO qqO
   exact⟨b,r++[dgc (x % 10)],by rw[qA h,e];rfl,hb⟩
theorem UA:∀(n:Nat) (l:List UInt8),l.length=n+1->isD l->(∀b r,l=b::r->b=48->r=[])->l=decDigits (vD l):=by
 intro n;induction n with
 |zero=>
  intro l hl hd h0
  match l,hl with
  | [b],_=>
   have hb:=hd b qqS;rw[wX,dec_lt qqO,<-Uz hb]
 |succ n ih=>
  intro l hl hd h0;have hne:l≠[]:=λe=>by subst e;simp at hl
  obtain⟨m,b,rfl⟩:∃m b,l=m++[b]:=⟨l.dropLast,l.getLast hne,(List.dropLast_concat_getLast hne).symm⟩;have hm:m.length=n+1:=by simpa using hl
  obtain⟨hd1,hd2⟩:=Ng.1 hd;obtain⟨c,r,rfl⟩:∃c r,m=c::r:=by
   cases m with
   |nil=>simp at hm
   |cons c r=>exact⟨c,r,rfl⟩
  have hc:c≠48:=λe=>by
   have:=h0 c (r++[b]) rfl e;simp at this
  have e1:=ih (c::r) hm hd1 (λb' r' e hb'=>by
   cases e;exact absurd hb' hc)
  have hv:vD (c::r)≠0:=λe=>by
   rw[e,dec_lt qqO]at e1;simp only[List.cons.injEq]at e1;exact hc e1.1
  have hb:=hd2 b qqS;have e2:=wW (a:=vD (c::r)) qqO 1 (b.toNat-48) qqO;rw[CB,wX];have e3:iM 1 (b.toNat-48)=[b]:=by
   rw[iM,iM,alT qqO,<-Uz hb];rfl
  rw[show [b].length=1 from rfl,e2,e3,<-e1]
theorem LG:∀(l:List UInt8) (acc:Nat),isD l->decFrom acc l=some (l.foldl vF acc):=by
 intro l;induction l with
 |nil=>intro acc _;rfl
 |cons b r ih=>
  intro acc h;have hb:=h b qqS;unfold decFrom digitVal;rw[if_pos hb];exact ih _ λc hc=>h c (ani _ hc)
theorem atoi_dig {l:List UInt8} (hne:l≠[]) (h:isD l):atoi l=some ((vD l:Nat):Int):=by
 cases l with
 |nil=>exact absurd rfl hne
 |cons b r=>
  have hb:=h b qqS;have h1:(b==45)=false:=by
   rw[beq_eq_false_iff_ne];intro e;subst e;simp at hb
  have h2:(b==43)=false:=by
   rw[beq_eq_false_iff_ne];intro e;subst e;simp at hb
  unfold atoi;simp only[h1,h2,amn,if_false];unfold decNat;rw[LG _ _ h];rfl
theorem wY (n:Nat):repeatL [48] n=alL n 48:=by
 induction n with
 |zero=>rfl
 |succ n ih=>rw[repeatL,ih];rfl
theorem ad7 {n:Int} (h:0≤n):itoa n=decDigits n.toNat:=by unfold itoa;rw[if_neg qqO]
end Go.Eng.Dec
namespace Go.Proofs
open Go.Shelf Go.RowKit Go.Sort Go.Lib
set_option linter.unusedSimpArgs false
set_option linter.unusedVariables false
theorem holds_zero0 (w:World) (T:TypeId) (nd:Nat) (hs:nd≤24):Holds (λ(b:UInt8)=>Value.int .u8 (b.toNat:Int)) (w.alloc (.cells zeros24 T)) w.heap.size 0 (ane nd (0:UInt8)):=λj hj=>by
 have hj':j<nd:=by simpa using hj
 refine⟨?_,World.frozen?_alloc_new _ _ _ _⟩;rw[World.cell?_alloc_new,zeros24_at _ qqO,getElem!_pos _ j hj];simp
theorem Yg (w:World) (o:Obj) (dk:Array UInt8) (k:Nat):∃os,(putRow (λ(b:UInt8)=>Value.int .u8 (b.toNat:Int)) (w.alloc o) w.heap.size 0 dk).drewN k=grow (w.drewN k) os:=by
 rw[alloc_eq_grow];obtain⟨os',_,e⟩:=putRow_grow_new (λ(b:UInt8)=>Value.int .u8 (b.toNat:Int)) w #[o] w.heap.size 0 dk (alo _);exact⟨os',by rw[e];rfl⟩
set_option maxHeartbeats 6400000 in
set_option maxRecDepth 100000 in
theorem Tryz.fmtU (u:Nat) (hu:100≤u) (hu64:u<18446744073709551616) (w:World)
 (htab:Lib.TabIs Tryz.prog w "internal/strconv.uint64pow10" .u64 Lib.pow10Tab):
 Calls Tryz.prog 281 #[.int .u64 u,.int .i64 10] w λe w'=>e=.returned (.string ⟨(Lib.decDigits u).toArray⟩)/\∃k os,w'=grow (w.drewN k) os:=by
 have mixed:=Tryz.lays285.mixed;have hnd20:Lib.nDigits u≤20:=by have:=Lib.numDigits_eq u qqO hu64;split at this<;>omega
 have hal:Tryz.prog.arrayLen 295=24:=by simp[Program.arrayLen,Tryz.underlying295]
 have hsl1:∀W,(Instr.sliceAt 295 (.pointer (some ⟨w.heap.size,0,none⟩)) none (some (.int .i64 (Lib.nDigits u:Int))) none).run Tryz.prog W=.ok (.slice (some ⟨w.heap.size,0,none⟩) (Lib.nDigits u) 24) W:=λW=>by
  rw[run_sliceAt_array_h W 295 ⟨w.heap.size,0,none⟩ (by simp[Program.arrayLen,Program.elem,Tryz.underlying295]) .i64 (Lib.nDigits u:Int) qqO (by rw[hal];omega)]
  go_simp
 have hH0:=holds_zero0 w 295 (Lib.nDigits u) qqO;have hfmt:=Tryz.internal_strconv_formatBase10 w.heap.size 0 24 u (ane (Lib.nDigits u) 0) (w.alloc (.cells Lib.zeros24 295)) hH0 (by rw[aoK];exact Lib.lt_pow_nDigits u) hu64 (by rw[aoK];omega)
 rw[aoK]at hfmt;have HH0:=Lib.hid hH0;clear hH0 hal;have e295:∀args w,(callFunc 295 args).run Tryz.prog w=.ok (.enter 295 args) w:=enters_of Tryz.func295 (by kernel_rfl) rfl
 have e296:∀args w,(callFunc 296 args).run Tryz.prog w=.ok (.enter 296 args) w:=enters_of Tryz.func296 (by kernel_rfl) rfl
 go_enter Tryz.func281,Tryz.ntmps281
 go_wp2_with (first
  |(go_at_fn 295;refine(Tryz.internal_strconv_numDigits u qqO hu64 _ (Lib.tabIs_alloc htab _)).mono ?_;rintro e w' ⟨rfl,rfl⟩))
 refine hfmt.mono ?_
 rintro e w' ⟨rfl,k,v',dk,rfl,hF⟩
 have hal:Tryz.prog.arrayLen 295=24:=by simp[Program.arrayLen,Tryz.underlying295]
 have hcv:(convert 270 9 (.slice (some ⟨w.heap.size,0,none⟩) (Lib.nDigits u) 24)).run Tryz.prog ((putRow (λ(b:UInt8)=>Value.int .u8 (b.toNat:Int)) (w.alloc (.cells Lib.zeros24 295)) w.heap.size 0 dk).drewN k)=.ok (.string ⟨(Lib.decDigits u).toArray⟩) ((putRow (λ(b:UInt8)=>Value.int .u8 (b.toNat:Int)) (w.alloc (.cells Lib.zeros24 295)) w.heap.size 0 dk).drewN k):=by
  have h:=run_convert_bytes_back (P:=Tryz.prog) ((putRow (λ(b:UInt8)=>Value.int .u8 (b.toNat:Int)) (w.alloc (.cells Lib.zeros24 295)) w.heap.size 0 dk).drewN k) 270 9 5 ⟨w.heap.size,0,none⟩ 24 (Lib.decDigits u) Tryz.underlying270 Tryz.underlying5 Tryz.underlying9 (λj hj=>by
   rw[Lib.row_is_numeral hF j hj,Lib.add_plain,World.cell?_drewN];exact cell?_putRow (λ(b:UInt8)=>Value.int .u8 (b.toNat:Int)) _ w.heap.size 0 _ dk HH0.out (by rw[hF.size,aoK]) j (by rw[hF.size];rw[Lib.decDigits_length]at hj;exact hj))
  rw[Lib.decDigits_length]at h;exact h
 go_wp2
 go_ret
 obtain⟨os,eo⟩:=Yg w (.cells Lib.zeros24 295) dk k;exact⟨rfl,k,os,eo⟩
set_option maxRecDepth 100000 in
theorem Tryz.fmtUs (i:Nat) (hi:i<100) (w:World):
 Calls Tryz.prog 281 #[.int .u64 i,.int .i64 10] w λe w'=>e=.returned (.string ⟨(Lib.decDigits i).toArray⟩)/\w'=w:=by
 have mixed:=Tryz.lays285.mixed;have e294:∀args w,(callFunc 294 args).run Tryz.prog w=.ok (.enter 294 args) w:=enters_of Tryz.func294 (by kernel_rfl) rfl
 go_enter Tryz.func281,Tryz.ntmps281
 go_wp2_with (go_at_fn 294;refine(Tryz.internal_strconv_small i hi _).mono ?_;rintro e w' ⟨rfl,rfl⟩)
 go_ret
 exact⟨rfl,rfl⟩
end Go.Proofs
namespace Go.Eng
open Go.Proofs Go.Shelf Go.RowKit
set_option linter.unusedSimpArgs false
set_option linter.unusedVariables false
theorem yZ {P:Program} {w:World} {ops:Array Oper} {rest:List Oper} {o:Oper} {a:Act} {Q:Exit->Act->World->Prop} (hgd:o.guard=none) (sl x:Operand) (t u:TypeId)
 (ho:o.op=.call {callee:=.builtin .append,args:= #[sl,x],argTypes:= #[t,u]})
 (e:TypeId) (i:TypeInfo) (ht:P.underlying t=some (.slice e)) (hu:P.underlying u=some .string) (hi:P.info? e=some i) (hz:i.zero=some (.int .u8 0)) (hsize:i.size=1) (hby:i.bytes=1)
 (v:Value) (n:Nat) (xs:List Value) (hs:a.eval sl=v) (hown:w.ownsRowF 0 e 1 v n xs) (s:ByteArray) (hx:a.eval x=.string s) (h63:n+s.size≤maxLen) (hbytes:n+s.size≤140737488355328)
 (h:∀v' w',w'.ownsRowF 0 e 1 v' (n+s.size) (xs++Lib.strCells s)->w.grownBy w' v.ownBlock->(∀b,b<w.heap.size->bsz w' b=bsz w b)->(∀g,v'.ownBlock=some g->v.ownBlock=some g∨w.heap.size≤g)->wpList P ops Q rest (a.put o.dst v') w'):
 wpList P ops Q (o::rest) a w:=by
 refine wpList_plain hgd λK hK=>?_;obtain⟨v',w',hr,h2,h3,h4,h5⟩:=Qg (P:=P) w t u o.type e i ht hu hi hz hsize hby v n xs hown s h63 hbytes;unfold Oper.wp execOp;simp only[ho,resolve,invoke,builtin,Sem.run_bind,Sem.run_pure,Result.andThen_ok,List.map_toArray,List.map_cons,List.map_nil,hs,hx,hr];exact hK _ _ (h v' w' h2 h3 h4 h5)
theorem zx (w:World) (a:Addr) (x:Value) (b:Nat):bsz (w.setCell a x) b=bsz w b:=by
 unfold bsz World.setCell;rw[alx];by_cases e:a.block=b
 ·rw[if_pos e]
  cases w.heap[b]? with
  |none=>rfl
  |some o=>
   cases o with
   |cells c t f=>simp only[Option.map_some];split<;>simp
   |_=>rfl
 ·rw[if_neg e]
theorem Jv (a b:ByteArray):Lib.strCells a++Lib.strCells b=Lib.strCells (a++b):=by
 unfold Lib.strCells;rw[<-aoL];congr 1
theorem UC {P:Program} {ρ:Ren} (L:Lays.n240 P ρ) (X:Builder.X72 P ρ) (b:Nat) (p v:Value) (w:World) (hbk:w.heap[b]? =some (.cells #[p,v] (ρ.t 72) (0,0))) (hp:p=.pointer none∨p=.pointer (some ⟨b,0,none⟩)):
 Calls P (ρ.f 240) #[.pointer (some ⟨b,0,none⟩)] w λe w'=>e=.returned (.tuple #[])/\w'.heap[b]? =some (.cells #[.pointer (some ⟨b,0,none⟩),v] (ρ.t 72) (0,0))/\w'.os=w.os/\w'.tape=w.tape/\w'.output=w.output/\w'.heap.size=w.heap.size/\
  (∀b',b'≠b->w'.heap[b']? =w.heap[b']?)/\∀b',bsz w' b'=bsz w b':=by
 rcases hp with rfl|rfl
 ·refine(Any.Builder_copyCheck_fresh L X b w (by rw[Lib.cell_of_heap hbk];rfl) (by simp[World.shape?,hbk]) (Lib.frozen_of_heap hbk 0)).mono ?_
  rintro e w' ⟨rfl,rfl⟩
  exact⟨rfl,by simp[World.setCell,alx,hbk],rfl,rfl,rfl,by simp[World.setCell],λb' hb'=>Below.heap_setCell _ _ _ _ hb',λb'=>zx _ _ _ _⟩
 ·refine(Any.Builder_copyCheck_used L X b w (by rw[Lib.cell_of_heap hbk];rfl)).mono ?_
  rintro e w' ⟨rfl,rfl⟩
  exact⟨rfl,hbk,rfl,rfl,rfl,rfl,λ_ _=>rfl,λ_=>rfl⟩
set_option maxHeartbeats 4000000 in
set_option maxRecDepth 100000 in
theorem UD {P:Program} {ρ:Ren} (L:Lays.n166 P ρ) (X:Builder.Extra P ρ) (b:Nat) (p v:Value) (bs s:ByteArray) (w:World) (hbk:w.heap[b]? =some (.cells #[p,v] (ρ.t 72) (0,0))) (hp:p=.pointer none∨p=.pointer (some ⟨b,0,none⟩))
 (hne:v.ownBlock≠some b) (hown:w.ownsRowF 0 (ρ.t 5) 1 v bs.size (Lib.strCells bs)) (hlen:bs.size+s.size≤140737488355328):
 Calls P (ρ.f 166) #[.pointer (some ⟨b,0,none⟩),.string s] w λex w'=>∃val v',ex=.returned val/\wL (ρ.t 72) (ρ.t 5) b v w w' (bs++s) v'/\val=.tuple #[.int .i64 s.size,.nilIface]:=by
 obtain⟨i0,hi,hz0,hz1,hz2⟩:=info_parts X.infoByte;have mixed:=L.mixed;have t72:=L.t72;have a72:=L.a72;have z72:=L.z72;have v72:=L.v72;have u72:=run_underlying L.t72;have t70:=L.t70;have a70:=L.a70;have z70:=L.z70;have v70:=L.v70;have u70:=run_underlying L.t70;have t37:=L.t37;have a37:=L.a37;have z37:=L.z37;have v37:=L.v37;have u37:=run_underlying L.t37;have t3:=L.t3;have a3:=L.a3;have z3:=L.z3;have v3:=L.v3;have u3:=run_underlying L.t3;have t9:=L.t9;have a9:=L.a9;have z9:=L.z9;have v9:=L.v9;have u9:=run_underlying L.t9;have t4:=L.t4;have a4:=L.a4;have z4:=L.z4;have v4:=L.v4;have u4:=run_underlying L.t4;have t164:=L.t164;have a164:=L.a164;have z164:=L.z164;have v164:=L.v164;have u164:=run_underlying L.t164;have t5:=X.t5;have a5:=X.a5;have z5:=X.z5;have v5:=X.v5;have u5:=run_underlying X.t5;have e240:∀args w,(callFunc (ρ.f 240) args).run P w=.ok (.enter (ρ.f 240) args) w:=enters_of L.f240 (by kernel_rfl) rfl
 go_enter L.f166,Body.n166_ntmps ρ
 go_wp2_with (go_at_fn (ρ.f 240);refine(UC {L with} X.toX72 b p v _ hbk hp).mono ?_)
 rintro e w1 ⟨rfl,hb1,o1,tp1,ou1,sz1,oth1,bz1⟩
 have hown1:w1.ownsRowF 0 (ρ.t 5) 1 v bs.size (Lib.strCells bs):=mW hown λg hg=>oth1 g (λe=>hne (by rw[hg,e]))
 have c0:w1.cell? ⟨b,0,none⟩=some (.pointer (some ⟨b,0,none⟩)):=by rw[Lib.cell_of_heap hb1];rfl
 have c1:w1.cell? ⟨b,1,none⟩=some v:=by rw[Lib.cell_of_heap hb1];rfl
 go_wp2_with (at_builtin;refine yZ rfl _ _ (ρ.t 37) (ρ.t 9) rfl (ρ.t 5) i0 L.t37 L.t9 hi hz0 hz1 hz2 _ _ _ rfl hown1 s rfl ?c3 ?c4 ?_)
 case c3=>unfold maxLen;omega
 case c4=>omega
 intro v' w2 hown' hgrow hbz hnew;have hlt:b<w1.heap.size:=lt_of_heap hb1;have hb2:w2.heap[b]? =some (.cells #[.pointer (some ⟨b,0,none⟩),v] (ρ.t 72) (0,0)):=by
  rw[hgrow.block b hlt (λe=>hne e.symm)];exact hb1
 have d0:w2.cell? ⟨b,0,none⟩=some (.pointer (some ⟨b,0,none⟩)):=by rw[Lib.cell_of_heap hb2];rfl
 have d1:w2.cell? ⟨b,1,none⟩=some v:=by rw[Lib.cell_of_heap hb2];rfl
 have f1:w2.frozen? ⟨b,1,none⟩=false:=Lib.frozen_of_heap hb2 1;have hvb:v'.ownBlock≠some b:=λe=>by
  rcases hnew b e with h|h
  ·exact hne h
  ·omega
 obtain⟨ao,n',cap,rfl⟩:∃ao n' cap,v'=.slice ao n' cap:=by
  rcases hown'.2 with⟨hv,_⟩|⟨g,cap,cur,fz,hv,_⟩
  ·exact⟨_,_,_,hv⟩
  ·exact⟨_,_,_,hv⟩
 go_wp2
 go_ret2
 refine⟨_,.slice ao n' cap,rfl,⟨⟨_,?_,.inr rfl⟩,hvb,?_,?_,?_,?_,?_,?_,?_,?_⟩,rfl⟩
 ·simp[World.setCell,alx,hb2]
 ·rw[<-Jv,ByteArray.size_append]
  exact mW hown' λg hg=>Below.heap_setCell _ _ _ _ (λe=>hvb (by rw[hg,e]))
 ·intro g hg
  rcases hnew g hg with h|h
  ·exact .inl h
  ·exact .inr qqO
 ·exact hgrow.os.trans o1
 ·exact hgrow.tape.trans tp1
 ·exact hgrow.output.trans ou1
 ·have:=hgrow.size;simp[World.setCell];omega
 ·intro b' h1 h2 h3
  rw[Below.heap_setCell _ _ _ _ h2,hgrow.block b' qqO (λe=>h3 e.symm)];exact oth1 b' h2
 ·intro b' h1
  rw[zx,hbz b' qqO]
set_option maxHeartbeats 4000000 in
set_option maxRecDepth 100000 in
theorem QD {P:Program} {ρ:Ren} (L:Lays.n169 P ρ) (X:Builder.Extra P ρ) (b:Nat) (p v:Value) (s:ByteArray) (w:World) (hbk:w.heap[b]? =some (.cells #[p,v] (ρ.t 72) (0,0))) (hp:p=.pointer none∨p=.pointer (some ⟨b,0,none⟩))
 (hne:v.ownBlock≠some b) (hown:w.ownsRowF 0 (ρ.t 5) 1 v s.size (Lib.strCells s)) (h0:0<s.size):
 Calls P (ρ.f 169) #[.pointer (some ⟨b,0,none⟩)] w λex w'=>∃val v',ex=.returned val/\wL (ρ.t 72) (ρ.t 5) b v w w' s v'/\val=.string s:=by
 obtain⟨g,cap,cur,fz,rfl,hbg,hg,hfz,hnc,hcm,hcs,htake⟩:∃g cap cur fz,v=.slice (some ⟨g,0,none⟩) s.size cap/\0≤g/\w.heap[g]? =some (.cells cur (ρ.t 5) fz)/\fz.2≤s.size*1/\s.size≤cap/\cap≤maxLen/\cur.size=cap*1/\cur.toList.take (s.size*1)=Lib.strCells s:=by
  rcases hown.2 with⟨_,hz⟩|⟨g,cap,cur,fz,hv,r⟩
  ·omega
  ·exact⟨g,cap,cur,fz,hv,r⟩
 have hgb:g≠b:=λe=>hne (by simp[Value.ownBlock,e])
 have hls:s.data.toList.length=s.size:=by rw[alY];rfl
 have c1:w.drew.cell? ⟨b,1,none⟩=some (.slice (some ⟨g,0,none⟩) s.size cap):=by
  have:w.drew.heap[b]? =some (.cells #[p,.slice (some ⟨g,0,none⟩) s.size cap] (ρ.t 72) (0,0)):=hbk;rw[Lib.cell_of_heap this];rfl
 have hSD:(Builtin.unsafeSliceData_ #[(ρ.t 37)] (ρ.t 127) #[.slice (some ⟨g,0,none⟩) s.size cap]).run P w.drew=.ok (.pointer (some ⟨g,0,none⟩)) w.drew:=
  Lib.run_unsafeSliceData_row _ _ _ _ _ _ qqO
 have hUS:(Builtin.unsafeString_ #[(ρ.t 127),(ρ.t 3)] (ρ.t 9) #[.pointer (some ⟨g,0,none⟩),.int .i64 s.size]).run P w.drew=.ok (.string s) (w.drew.freeze ⟨g,0,none⟩ s.size):=by
  have:=Lib.run_unsafeString_row (P:=P) w.drew (ρ.t 127) (ρ.t 3) (ρ.t 9) (ρ.t 5) L.t127 X.cellsByte g cur.size (by have hg':w.drew.heap[g]? =some (.cells cur (ρ.t 5) fz):=hg;simp[World.shape?,hg']) s.data.toList (by intro e;rw[e]at hls;exact absurd hls (by rw[List.length_nil];omega)) qqO (by unfold maxLen at hcm;omega) (by
   intro j x hx;exact hown.cells (g:=g) rfl j (.int .u8 x.toNat) (by simp[Lib.strCells,hx]))
  rw[hls]at this;exact this
 have hfin:wL (ρ.t 72) (ρ.t 5) b (.slice (some ⟨g,0,none⟩) s.size cap) w (w.drew.freeze ⟨g,0,none⟩ s.size) s (.slice (some ⟨g,0,none⟩) s.size cap):=by
  have hgn:(w.drew.freeze ⟨g,0,none⟩ s.size).heap[g]? =some (.cells cur (ρ.t 5) (if fz.1==fz.2 then(0,0+s.size)else(min fz.1 0,max fz.2 (0+s.size)))):=by
   unfold World.freeze;rw[if_neg qqO];have hg':w.drew.heap[g]? =some (.cells cur (ρ.t 5) fz):=hg;simp[alx,hg']
  have hoth:∀b',b'≠g->(w.drew.freeze ⟨g,0,none⟩ s.size).heap[b']? =w.heap[b']? :=λb' hb'=>by
   unfold World.freeze;rw[if_neg qqO];simp only[alx];rw[if_neg (λe=>hb' e.symm)];rfl
  refine⟨⟨p,(hoth b (λe=>hgb e.symm)).trans hbk,hp⟩,hne,⟨hown.1,.inr ⟨g,cap,cur,_,rfl,hbg,hgn,?_,hnc,hcm,hcs,htake⟩⟩,λg' hg'=>.inl hg',?_,?_,?_,?_,λb' _ _ h3=>hoth b' (λe=>h3 (by simp[Value.ownBlock,e])),λb' _=>?_⟩
  ·split
   ·simp
   ·simp;omega
  ·unfold World.freeze;split<;>rfl
  ·unfold World.freeze;split<;>rfl
  ·unfold World.freeze;split<;>rfl
  ·unfold World.freeze
   split
   ·exact alo _
   ·exact Nat.le_of_eq (Array.size_modify ..).symm
  ·by_cases e:b'=g
   ·subst e;unfold bsz;rw[hgn,hg]
   ·exact gM (hoth b' e)
 have mixed:=L.mixed;have t72:=L.t72;have a72:=L.a72;have z72:=L.z72;have v72:=L.v72;have u72:=run_underlying L.t72;have t70:=L.t70;have a70:=L.a70;have z70:=L.z70;have v70:=L.v70;have u70:=run_underlying L.t70;have t37:=L.t37;have a37:=L.a37;have z37:=L.z37;have v37:=L.v37;have u37:=run_underlying L.t37;have t127:=L.t127;have a127:=L.a127;have z127:=L.z127;have v127:=L.v127;have u127:=run_underlying L.t127;have t3:=L.t3;have a3:=L.a3;have z3:=L.z3;have v3:=L.v3;have u3:=run_underlying L.t3;have t9:=L.t9;have a9:=L.a9;have z9:=L.z9;have v9:=L.v9;have u9:=run_underlying L.t9;have t5:=X.t5;have a5:=X.a5;have z5:=X.z5;have v5:=X.v5;have u5:=run_underlying X.t5
 go_enter L.f169,Body.n169_ntmps ρ
 go_wp2
 go_region_o
 all_goals(go_wp2;go_ret;exact⟨_,_,rfl,hfin,rfl⟩)
end Go.Eng
namespace Go.Eng.YtmkagljofpddpaaGreatDoor
open Go.Proofs Go.RowKit
set_option linter.unusedSimpArgs false
set_option linter.unusedVariables false
set_option maxHeartbeats 0
set_option maxRecDepth 100000
def itB (n:Int):ByteArray:=⟨(Go.Lib.itoa n).toArray⟩
def iO (n:Int):Prop:= -9223372036854775808≤n/\n≤9223372036854775807
theorem Fz {S:Imm} {w:World} (h:gB S w):Lib.TabIs Tryz.prog w "internal/strconv.uint64pow10" .u64 Lib.pow10Tab:=by
 obtain⟨h0,h1⟩:=h 7 _ rfl;have e:nZ=Lib.pow10Tab:=qqD;unfold Lib.TabIs World.var?;rw[show Tryz.prog.globalNamed "internal/strconv.uint64pow10" =some 7 from by kernel_rfl,Option.bind_some,<-e]
 unfold bsz at h0;split at h0
 ·rename_i cs t f hb
  rw[hb];refine congrArg some (Array.ext_getElem? λj=>?_);have hsz:cs.size=nZ.length:=by simpa [CL.ncell]using h0
  rcases alq j nZ.length with hj|hj
  ·obtain⟨_,hr⟩:=h1 j (by simpa [CL.ncell]using hj)
   have h2:rd w 7 j=some cs[j]:=by simp[rd,hb,hsz,hj]
   have h3:rdv w 7 j=cs[j]:=by unfold rdv;rw[h2];rfl
   rw[h3]at hr;rw[Array.getElem?_eq_getElem qqO];have h4:(CL.ints .u64 nZ).get j=.int .u64 (nZ.getD j 0):=rfl;rw[h4]at hr;generalize cs[j]=y at hr
   cases hr
   simp[alC,hj]
  ·rw[alr qqO,alr (by simpa using hj)]
 ·cases h0
theorem UE (n:Int) (h:iO n):aB Tryz.prog 261 [.int .i64 n] (.str (itB n)):=by
 refine mH (enters' Tryz.func261 qqR qqR) λS w vs hg himm hA=>?_;have h0:=hA.2 0 qqS;have hsz:vs.size=1:=hA.1.symm;simp only[aG]at h0;have hvs:vs= #[vs.getD 0 undef]:=by
  apply Array.ext (by simp[hsz])
  intro i h1 h2;have:i=0:=qqO;subst this;simp[alz,h1]
 rw[hvs];generalize vs.getD 0 undef=v0 at h0
 cases h0
 refine⟨_,.str _ _,?_⟩;refine(Tryz.strconv_Itoa n h.1 h.2 w (Fz hg)).mono ?_
 rintro e w' ⟨rfl,k,os,rfl⟩
 exact⟨rfl,Lib.below_grow _ _ (alo _) _ _⟩
def QE:PSp:=λxs K=>match xs with
 | [.int .i64 n]=>VC (iO n)/\K (.str (itB n))
 |_=>False
theorem ad8:POK Tryz.prog 261 QE:=by
 intro xs K h;unfold QE at h;split at h
 ·exact⟨_,h.2,UE _ h.1.get⟩
 ·exact h.elim
theorem qB {S:Imm} {w:World} {s p:ByteArray} {vs:Array Value} (h:bH S w noI [.str s,.str p] vs):vs= #[.string s,.string p]:=by
 obtain⟨v,u,rfl,h1,h2⟩:=uz h;cases h1;cases h2;rfl
theorem Ni {S:Imm} {w:World} {s:ByteArray} {vs:Array Value} (h:bH S w noI [.str s] vs):vs= #[.string s]:=by
 obtain⟨v,rfl,h1⟩:=IY h;cases h1;rfl
def preB (s p:ByteArray):Bool:=Go.Lib.hasPrefix s.data.toList p.data.toList
theorem Yh (s p:ByteArray):aB Tryz.prog 226 [.str s,.str p] (.bp (preB s p)):=by
 refine fT (enters' Tryz.func226 qqR qqR) λS w vs himm hA=>?_;rw[qB hA];refine⟨_,.bp _ _,(Tryz.strings_HasPrefix s p w).mono ?_⟩
 rintro e w' ⟨rfl,rfl⟩
 exact⟨rfl,.refl _ _⟩
def Yi:PSp:=λxs K=>match xs with
 | [.str s,.str p]=>VC (True)/\K (.bp (preB s p))
 |_=>False
theorem ahw:POK Tryz.prog 226 Yi:=by
 intro xs K h;unfold Yi at h;split at h
 ·exact⟨_,h.2,Yh _ _⟩
 ·exact h.elim
def dQ (s p:ByteArray):ByteArray:=⟨(Go.Lib.trimPrefix s.data.toList p.data.toList).toArray⟩
theorem Yj (s p:ByteArray):aB Tryz.prog 227 [.str s,.str p] (.str (dQ s p)):=by
 refine fT (enters' Tryz.func227 qqR qqR) λS w vs himm hA=>?_;rw[qB hA];refine⟨_,.str _ _,(Tryz.strings_TrimPrefix s p w).mono ?_⟩
 rintro e w' ⟨rfl,rfl⟩
 exact⟨rfl,.refl _ _⟩
def QF:PSp:=λxs K=>match xs with
 | [.str s,.str p]=>VC (True)/\K (.str (dQ s p))
 |_=>False
theorem UF:POK Tryz.prog 227 QF:=by
 intro xs K h;unfold QF at h;split at h
 ·exact⟨_,h.2,Yj _ _⟩
 ·exact h.elim
theorem UG (s p:ByteArray):aB Tryz.prog 175 [.str s,.str p] (.tup [.str (dQ s p),.bp (preB s p)]):=by
 refine fT (enters' Tryz.func175 qqR qqR) λS w vs himm hA=>?_;rw[qB hA];refine⟨_,.tup _ _ #[.string (dQ s p),.bool (preB s p)] rfl λi hi=>?_,(Tryz.strings_CutPrefix s p w).mono ?_⟩
 ·have:i=0∨i=1:=by simp at hi;omega
  rcases this with rfl|rfl
  ·exact .str _ _
  ·exact .bp _ _
 rintro e w' ⟨rfl,rfl⟩
 exact⟨rfl,.refl _ _⟩
def QG:PSp:=λxs K=>match xs with
 | [.str s,.str p]=>VC (True)/\K (.tup [.str (dQ s p),.bp (preB s p)])
 |_=>False
theorem ad9:POK Tryz.prog 175 QG:=by
 intro xs K h;unfold QG at h;split at h
 ·exact⟨_,h.2,UG _ _⟩
 ·exact h.elim
def Ej (s:ByteArray) (c:Nat):ByteArray:=⟨(Go.Lib.repeatL s.data.toList c).toArray⟩
theorem UH (s:ByteArray) (c:Nat) (h:c≤1000000000/\s.size≤1000):aB Tryz.prog 263 [.str s,.int .i64 c] (.str (Ej s c)):=by
 refine fT (enters' Tryz.func263 qqR qqR) λS w vs himm hA=>?_;obtain⟨v,u,rfl,h1,h2⟩:=uz hA;cases h1;cases h2
 refine⟨_,.str _ _,(Tryz.strings_Repeat s c w qqO ?_).mono ?_⟩
 ·have:=amy h.2 h.1
  omega
 rintro e w' ⟨rfl,hB⟩
 exact⟨rfl,hB⟩
def QI:PSp:=λxs K=>match xs with
 | [.str s,.int .i64 c]=>VC (0≤c/\c≤1000000000/\s.size≤1000)/\K (.str (Ej s c.toNat))
 |_=>False
theorem aea:POK Tryz.prog 263 QI:=by
 intro xs K hk;unfold QI at hk;split at hk
 ·obtain⟨h1,h2,h3⟩:=hk.1.get
  rename_i s c;obtain⟨n,rfl⟩:=an2 h1;exact⟨_,hk.2,UH s n ⟨qqO,h3⟩⟩
 ·exact hk.elim
theorem UJ (s:ByteArray) (hs:s.size≤18) (n:Int) (hn:Go.Lib.atoi s.data.toList=some n):aB Tryz.prog 228 [.str s] (.tup [.int .i64 n,.nili]):=by
 refine fT (enters' Tryz.func228 qqR qqR) λS w vs himm hA=>?_;rw[Ni hA];refine⟨_,.tup _ _ #[.int .i64 n,.nilIface] rfl λi hi=>?_,(Tryz.strconv_Atoi s n hs hn w).mono ?_⟩
 ·have:i=0∨i=1:=by simp at hi;omega
  rcases this with rfl|rfl
  ·exact .int _ _ _
  ·exact .nili _
 rintro e w' ⟨rfl,t,rfl⟩
 exact⟨rfl,⟨by unfold Lib.bytesWorld World.freeze;split<;>rfl,by unfold Lib.bytesWorld World.freeze;split<;>rfl,by unfold Lib.bytesWorld World.freeze;split<;>rfl,by rw[Lib.bytesWorld_size];omega,λi hi=>Lib.bytesWorld_at_old w 5 t i hi⟩⟩
def vB (s:ByteArray):Nat:=Dec.vD s.data.toList
def mM (s:ByteArray):Prop:=Dec.isD s.data.toList
theorem ai7 {s:ByteArray} (h:0<s.size):s.data.toList≠[]:=λe=>by
 have e1:s.data.toList.length=s.size:=by rw[alY];rfl
 rw[e]at e1;simp at e1;omega
def QJ:PSp:=λxs K=>match xs with
 | [.str s]=>VC (0<s.size/\s.size≤18/\mM s)/\K (.tup [.int .i64 (vB s:Nat),.nili])
 |_=>False
theorem aeb:POK Tryz.prog 228 QJ:=by
 intro xs K hk;unfold QJ at hk;split at hk
 ·obtain⟨h1,h2,h3⟩:=hk.1.get
  exact⟨_,hk.2,UJ _ h2 _ (Dec.atoi_dig (ai7 h1) h3)⟩
 ·exact hk.elim
def bF (x:Nat):ByteArray:=⟨(Go.Lib.decDigits x).toArray⟩
theorem UK (u:Nat) (hu:u<18446744073709551616):aB Tryz.prog 281 [.int .u64 u,.int .i64 10] (.str (bF u)):=by
 refine mH (enters' Tryz.func281 qqR qqR) λS w vs hg himm hA=>?_;obtain⟨v,t,rfl,h1,h2⟩:=uz hA;cases h1;cases h2
 refine⟨_,.str _ _,?_⟩;by_cases hs:u<100
 ·refine(Tryz.fmtUs u hs w).mono ?_
  rintro e w' ⟨rfl,rfl⟩
  exact⟨rfl,.refl _ _⟩
 ·refine(Tryz.fmtU u qqO hu w (Fz hg)).mono ?_
  rintro e w' ⟨rfl,k,os,rfl⟩
  exact⟨rfl,Lib.below_grow _ _ (alo _) _ _⟩
def QK:PSp:=λxs K=>match xs with
 | [.int .u64 u,.int .i64 b]=>VC (0≤u/\u<18446744073709551616/\b=10)/\K (.str (bF u.toNat))
 |_=>False
theorem aec:POK Tryz.prog 281 QK:=by
 intro xs K hk;unfold QK at hk;split at hk
 ·obtain⟨h1,h2,rfl⟩:=hk.1.get
  rename_i u;obtain⟨n,rfl⟩:=an2 h1;exact⟨_,hk.2,UK n qqO⟩
 ·exact hk.elim
noncomputable def aj7:CPT:=ay 281 (aJ QK) noC
theorem aed:aZ Tryz.prog aj7:=aj (aA aec) aC
theorem UL (u b:Int) (h:0≤u/\u<18446744073709551616/\b=10):aB Tryz.prog 262 [.int .u64 u,.int .i64 b] (.str (bF u.toNat)):=by
 refine au (md:=1) (rf:=[]) mixed ak aed Tryz.func262 qqR qqR qqR ?_;refine wk1 ?_;all_goals first|exact h|exact Sup.of rfl
def QL:PSp:=λxs K=>match xs with
 | [.int .u64 u,.int .i64 b]=>VC (0≤u/\u<18446744073709551616/\b=10)/\K (.str (bF u.toNat))
 |_=>False
theorem aee:POK Tryz.prog 262 QL:=by
 intro xs K h;unfold QL at h;split at h
 ·exact⟨_,h.2,UL _ _ h.1.get⟩
 ·exact h.elim
abbrev zY:ByteArray:=⟨#[48,49,50,51,52,53,54,55,56,57]⟩
def CF (s:ByteArray):ByteArray:=⟨(Go.Lib.trimS s.data.toList zY.data.toList).toArray⟩
theorem QM (s:ByteArray) (hs:s.size≤9223372036854775807):aB Tryz.prog 224 [.str s,.str zY] (.str (CF s)):=by
 refine fT (enters' Tryz.func224 qqR qqR) λS w vs himm hA=>?_;rw[qB hA];refine⟨_,.str _ _,(Any.strings_Trim_laid Tryz.lays160 (by kernel_rfl) s zY w hs qqD (ascii_of_all qqD)).mono ?_⟩
 rintro e w' ⟨rfl,hB⟩
 exact⟨rfl,hB⟩
def Jw:PSp:=λxs K=>match xs with
 | [.str s,.str d]=>VC (d=zY/\s.size≤9223372036854775807)/\K (.str (CF s))
 |_=>False
theorem Yk:POK Tryz.prog 224 Jw:=by
 intro xs K hk;unfold Jw at hk;split at hk
 ·obtain⟨rfl,h⟩:=hk.1.get
  exact⟨_,hk.2,QM _ h⟩
 ·exact hk.elim
theorem Yl (s:ByteArray) (c:UInt8):aB Tryz.prog 249 [.str s,.str ⟨#[c]⟩] (.int .i64 (Go.Lib.indexByte s.data.toList c)):=by
 refine fT (enters' Tryz.func249 qqR qqR) λS w vs himm hA=>?_;rw[qB hA];refine⟨_,.int _ _ _,(Tryz.stringslite_Index_one s c w).mono ?_⟩
 rintro e w' ⟨rfl,rfl⟩
 exact⟨rfl,.refl _ _⟩
def QN:CT:=λargs n H K=>match args with
 | [p,x]=>match p with
  |.rp k off=>match x with
   |.str s=>bR H k λo=>match o with
    |.bld t e acc=>ifK (alI off 0&&alI t 272&&alI e 5) (VC (acc.size+s.size≤140737488355328)/\K (.tup [.int .i64 s.size,.nili]) [(k,.bld t e (acc++s))] [k] [])
    |_=>False
   |_=>False
  |_=>False
 |_=>False
def QO:CT:=λargs n H K=>match args with
 | [p]=>match p with
  |.rp k off=>bR H k λo=>match o with
   |.bld t e acc=>ifK (alI off 0&&alI t 272&&alI e 5) (VC (0<acc.size)/\K (.str acc) [(k,.bld t e acc)] [k] [])
   |_=>False
  |_=>False
 |_=>False
theorem Nj {S:Imm} {w:World} {ι:Ix} {k b:Nat} {v:Value} (h:Rep S w ι (.rp k 0) v) (hb:ι.o k=some b):v=.pointer (some ⟨b,0,none⟩):=by
 cases h with
 |rp _ _ _ b' hk=>rw[hb]at hk;cases hk;rfl
theorem Ym {S:Imm} {w:World} {ι:Ix} {s:ByteArray} {v:Value} (h:Rep S w ι (.str s) v):v=.string s:=by cases h;rfl
theorem Yn:COK Tryz.prog 264 QN:=by
 intro args n H K hk;unfold QN at hk;split at hk
 ·split at hk
  ·rename_i k off
   split at hk
   ·rename_i s
    rw[bD]at hk;obtain⟨o,hob,hk⟩:=hk;split at hk
    ·rename_i t e acc
     simp only[aK,alM]at hk;obtain⟨⟨⟨h1,h2⟩,h3⟩,⟨hsz⟩,hk⟩:=hk;have h1:=alN h1;have h2:=alN h2;have h3:=alN h3;subst h1;subst h2;subst h3;refine⟨_,_,_,[],hk,IX (enters' Tryz.func264 qqR qqR) hob λS w ι vs b p v hr ho h0 hp hne hown=>?_⟩;obtain⟨v1,v2,rfl,r1,r2⟩:=uz hr;obtain rfl:=Nj r1 ho;obtain rfl:=Ym r2;refine(UD (P:=Tryz.prog) (ρ:=Tryz.lays105_ren) {Tryz.lays105 with} Tryz.Builder_Extra_105 b p v acc s w h0 hp hne hown hsz).mono ?_
     rintro ex w' ⟨val,v',rfl,B,rfl⟩
     exact⟨_,v',rfl,B,λS' ι'=>.tup _ _ _ rfl λi hi=>by
      match i,hi with
      |0,_=>exact .int _ _ _
      |1,_=>exact .nili _⟩
    ·exact hk.elim
   ·exact hk.elim
  ·exact hk.elim
 ·exact hk.elim
theorem Yo:COK Tryz.prog 265 QO:=by
 intro args n H K hk;unfold QO at hk;split at hk
 ·split at hk
  ·rename_i k off
   rw[bD]at hk;obtain⟨o,hob,hk⟩:=hk;split at hk
   ·rename_i t e acc
    simp only[aK,alM]at hk;obtain⟨⟨⟨h1,h2⟩,h3⟩,⟨hsz⟩,hk⟩:=hk;have h1:=alN h1;have h2:=alN h2;have h3:=alN h3;subst h1;subst h2;subst h3;refine⟨_,_,_,[],hk,IX (enters' Tryz.func265 qqR qqR) hob λS w ι vs b p v hr ho h0 hp hne hown=>?_⟩;obtain⟨v1,rfl,r1⟩:=IY hr;obtain rfl:=Nj r1 ho;refine(QD (P:=Tryz.prog) (ρ:=Tryz.lays105_ren) {Tryz.lays105 with} Tryz.Builder_Extra_105 b p v acc w h0 hp hne hown hsz).mono ?_
    rintro ex w' ⟨val,v',rfl,B,rfl⟩
    exact⟨_,v',rfl,B,λS' ι'=>.str _ _⟩
   ·exact hk.elim
  ·exact hk.elim
 ·exact hk.elim
end Go.Eng.YtmkagljofpddpaaGreatDoor
namespace Go.Eng.YtmkagljofpddpaaGreatDoor
open Go.Proofs Go.Eng.Dig Go.Eng.Dec
set_option linter.unusedSimpArgs false
set_option linter.unusedVariables false
set_option maxHeartbeats 0
set_option maxRecDepth 100000
abbrev DD:Nat:=1000000000000000000
theorem DD2:2≤DD:=qqD
def ptS (x k:Nat):ByteArray:=if x / DD ^ (k+1)=0 then bF (x / DD ^ k)else⟨(iM 18 (x / DD ^ k % DD)).toArray⟩
def cS (x k:Nat):ByteArray:=if x / DD ^ k=0 then .empty else bF (x / DD ^ k)
theorem wZ (a b:List UInt8):(⟨a.toArray⟩:ByteArray)++⟨b.toArray⟩=⟨(a++b).toArray⟩:=by
 apply ByteArray.ext;simp
theorem aef (x k:Nat) (h:x / DD ^ k≠0):cS x (k+1)++ptS x k=cS x k:=by
 unfold cS ptS;rw[if_neg h,oQ];generalize x / DD ^ k=y at*
 by_cases hq:y / DD=0
 ·rw[if_pos hq,if_pos hq,ByteArray.empty_append]
 ·rw[if_neg hq,if_neg hq]
  unfold bF;have hm:=al7 y DD;rw[alP]at hm;have h2:=wW (a:=y / DD) (al5 hq) 18 (y % DD) (al8 _ qqD);rw[wZ,<-h2];show(⟨(Go.Lib.decDigits (y / DD*DD+y % DD)).toArray⟩:ByteArray)=_;rw[hm]
theorem kE (x:Nat):(bF x).size=(Go.Lib.decDigits x).length:=by
 show(aoM _).size=_;rw[aoN]
theorem El (x:Nat):(bF x).size≤20*Lw x+1:=by
 rw[kE];have h1:=qW x;have h2:W ^ Lw x≤10 ^ (20*Lw x):=by
  rw[aoO];exact aoP qqD _
 have h3:10 ^ (20*Lw x)≤10 ^ (20*Lw x+1):=anL qqO qqO;have:=mK (20*Lw x) x qqO;omega
theorem Nk {x:Nat} (h:x<DD):1≤(bF x).size/\(bF x).size≤18:=by
 rw[kE];exact⟨jW x,mK 17 x h⟩
abbrev kZe:ByteArray:=⟨#[48]⟩
abbrev kMi:ByteArray:=⟨#[45]⟩
abbrev kSl:ByteArray:=⟨#[47]⟩
theorem UM {x k:Nat} (h:x / DD ^ (k+1)=0):ptS x k=bF (x / DD ^ k % DD):=by
 unfold ptS;rw[if_pos h];rw[oQ]at h;rw[alT ((aob qqD).1 h)]
theorem aeg {x k:Nat} (h:x / DD ^ (k+1)≠0):ptS x k=Ej kZe (18-(bF (x / DD ^ k % DD)).size)++bF (x / DD ^ k % DD):=by
 unfold ptS;rw[if_neg h,Nf 17 _ (al8 _ qqD),kE];unfold Ej bF;rw[show(kZe:ByteArray).data.toList=[48]from rfl,wY,wZ]
theorem Nl (x k:Nat):(ptS x k).size≤18:=by
 by_cases h:x / DD ^ (k+1)=0
 ·rw[UM h];exact(Nk (al8 _ qqD)).2
 ·unfold ptS
  rw[if_neg h];show(aoM _).size≤_;rw[aoN,zX];exact alo _
def ptL (x k:Nat):List ByteArray:=(alA k).map (ptS x)
theorem aeh (x k:Nat):(ptL x k).length=k:=by simp[ptL]
theorem Yp (x k:Nat):ptL x (k+1)=ptL x k++[ptS x k]:=by
 unfold ptL;rw[aoQ,aoL];rfl
theorem aei {α:Type} (f:Nat->α) (d:α) {k i:Nat} (h:i<k):((alA k).map f).getD i d=f i:=by
 rw[alC,List.getElem?_map,List.getElem?_range h];rfl
theorem aej {x k i:Nat} (h:i<k):(ptL x k).getD i .empty=ptS x i:=by
 have e:ptL x k=(alA k).map (ptS x):=rfl;rw[e];exact aei (ptS x) ByteArray.empty h
def sgB (n:Int):ByteArray:=if n<0 then kMi else .empty
theorem gX (n:Int):itB n=sgB n++bF n.natAbs:=by
 unfold itB sgB Go.Lib.itoa bF;split
 ·have e:(kMi:ByteArray)=⟨([45]:List UInt8).toArray⟩:=rfl
  rw[e,wZ,List.singleton_append]
 ·rw[ByteArray.empty_append,show n.toNat=n.natAbs by omega]
noncomputable def ai8:CPT:=ay 184 (aU nG) (ay 196 (aJ Gx) (ay 262 (aJ QL) (ay 263 (aJ QI) (ay 264 QN (ay 265 QO (ay 261 (aJ QE) noC))))))
theorem qC:aZ Tryz.prog ai8:=aj (aF lU) (aj (aA M9) (aj (aA aee) (aj (aA aea) (aj Yn (aj Yo (aj (aA ad8) aC))))))
theorem Yq (a:NI) (ha:a.OK) (hLa:a.L≤500000000):aB Tryz.prog 235 [niV a] (.str (itB a.val)):=by
 refine Jl ha (λh1 h2=>?_) (λx h1 h2 h3 h4=>?_)
 ·rw[gQ h1]
  refine au (md:=1) (rf:=[2272]) mixed ak qC Tryz.func235 qqR qqR qqR ?_;refine wk2 ?_ ?_;all_goals first|exact h2|exact Sup.of rfl
 ·have ea:=gP h1
  obtain⟨na,na'⟩:=fH h2;have en:a.val.natAbs=x:=by rw[h4];split<;>omega
  have hs:a.s<0↔a.val<0:=NI.neg_iff ha;have hLx:Lw x≤500000000:=by rw[<-en];exact hLa
  rw[gX,en];have hsg:sgB a.val=if a.s<0 then kMi else .empty:=by
   unfold sgB;by_cases h:a.val<0
   ·rw[if_pos h,if_pos (hs.2 h)]
   ·rw[if_neg h,if_neg (λh'=>h (hs.1 h'))]
  rw[hsg];refine au (md:=1) (rf:=[2272]) mixed ak qC Tryz.func235 qqR qqR qqR ?_;refine wk2 (λhq=>?_) λhq=>?_;all_goals(try simp only[ea,en])
  all_goals first
   |exact na
   |exact ha
   |omega
   |skip
  have hN0:∀k,x / DD ^ k=0↔(dl DD x).length≤k:=λk=>by
   constructor
   ·intro h
    exact Decidable.byContradiction λhlt=>by
     obtain⟨m,hm⟩:∃m,(dl DD x).length=m+1:=⟨(dl DD x).length-1,qqO⟩;have h1:=jI DD2 x m hm;have h2:DD ^ k≤DD ^ m:=anL qqD qqO;have h3:=(aob (pw DD2 k)).1 h;omega
   ·intro h
    have h1:=bU DD2 x;have h2:DD ^ (dl DD x).length≤DD ^ k:=anL qqD h;exact alR qqO
  have hNl:(dl DD x).length≤1000000000:=by
   have h1:=qW x;have h2:W ^ Lw x≤DD ^ (2*Lw x):=by
    rw[aoO];exact aoP qqD _
   have:=fG DD2 (x:=x) (k:=2*Lw x) qqO;omega
  generalize(dl DD x).length=N at*
  have hDw:Dw [(1000000000000000000:Int)]:=by
   have:=bS 1000000000000000000;rw[jQ W2 qqD qqD]at this;exact this
  have hvD:vw [(1000000000000000000:Int)]=DD:=by
   have:=dP 1000000000000000000;rw[jQ W2 qqD qqD]at this;exact this
  conv=>whnf
  refine aR (X:=Nat) (λk=>k≤N) (λk=>[(4,.isl (wd (x / DD ^ k)) .none),(6,.isl (.strs (ptL x k)) (.own 3)),(7,.any),(8,.any),(9,.any),(27,.any),(30,.any)]) (λk=>[(3,.tok 1 k)]) (λk=>N-k) 0 ⟨aH,mixed,ak,qC,aN⟩ qqR qqO ?_ ?_
  ·refine wk1 ?_
   all_goals(rw[aod,amb])
  intro k hk;have hpl:=aeh x k;have hLk:(dl W (x / DD ^ k)).length≤500000000:=als (fK (aon _ _)) hLx;have hlen0:(dl W (x / DD ^ k)).length=0↔N≤k:=by rw[amT,fD W2];exact hN0 k
  by_cases hlt:k<N
  ·have hlen1:(dl W (x / DD ^ k)).length≠0:=λh=>by have:=hlen0.1 h;omega
   have hQ:x / DD ^ k / DD=x / DD ^ (k+1):=(oQ _ _ _).symm;have hps:=Yp x k;have hlo:= @UM x k;have hhi:= @aeg x k;have hpt:=Nl x k;have hR:x / DD ^ k % DD<1000000000000000000:=al8 _ qqD;have hQ0:(dl W (x / DD ^ k / DD)).length=0↔x / DD ^ (k+1)=0:=by rw[amT,fD W2,hQ]
   have hR0:(dl W (x / DD ^ k % DD)).length=0↔x / DD ^ k % DD=0:=by rw[amT,fD W2]
   have hg:(dl W (x / DD ^ k % DD)).getD (an8 0) 0=((x / DD ^ k % DD:Nat):Int):=by
    rw[show an8 0=0 from rfl,bG W2,aod,amb,alT];exact aox hR qqD
   have hd18:=Nk (x:=x / DD ^ k % DD) hR;have e18:∀n:Nat,(18-(n:Int)).toNat=18-n:=λn=>qqO;have hz0:bF 0=kZe:=by unfold bF;rw[dec_lt qqO];rfl
   have hzs:(kZe:ByteArray).size=1:=rfl;have hsz:∀n,(Ej kZe n).size=n:=λn=>by
    unfold Ej;show(aoM _).size=_;rw[aoN,show(kZe:ByteArray).data.toList=[48]from rfl,wY,List.length_replicate]
   generalize hr':x / DD ^ k % DD=r at*
   rw[hQ]at hQ0;have hvD':vl W [(1000000000000000000:Int)]=DD:=hvD;have hv':vl W (dl W (x / DD ^ k))=x / DD ^ k:=uK W2 _
   repeat'((conv=>whnf);first|(intro hq;(try simp only[vw]at hq);try exact aV hq)|apply aI|exact aD|apply nM|apply fM)
   all_goals((try apply vM);(try simp only[vq]at*);try omega)
   all_goals(try simp only[vw,hv',hvD',hr',hQ,hg,anG,e18,hsz,hzs,amL,hpl,List.length_singleton])
   all_goals(try simp only[hv',hvD',hr',hQ]at*)
   all_goals first
    |omega
    |exact⟨bS _,hDw,qqO,qqO,qqS⟩
    |(refine⟨qqO,qqO,qqD⟩)
    |(rw[show(⟨#[48]⟩:ByteArray).size=1 from rfl];omega)
    |(refine⟨k+1,[],⟨qqO,qqO⟩,?_⟩
      refine wk1 ?_;all_goals first
       |rfl
       |(have h0:=hR0.1 qqO;rw[hps,hhi (λh=>by have:=hQ0.2 h;omega),h0,hz0];done)
       |(have h0:=hR0.1 qqO;rw[hps,hhi (λh=>by have:=hQ0.2 h;omega),h0,hz0];rfl)
       |(have h0:=hR0.1 qqO;rw[hps,hlo (hQ0.1 qqO),h0,hz0])
       |(rw[hps,hhi (λh=>by have:=hQ0.2 h;omega)])
       |(rw[hps,hlo (hQ0.1 qqO)])
       )
  ·have hkN:k=N:=qqO
   subst hkN;have hlen1:=hlen0.2 (alo _);have hz272:Qn.zero.cells= #[Value.pointer none,Value.slice none 0 0]:=rfl;have hcN:cS x k=.empty:=by unfold cS;rw[if_pos ((hN0 k).2 (alo _))]
   have hc0:cS x 0=bF x:=by unfold cS;rw[aod,amb,if_neg qqO]
   have hcs:∀j,(cS x j).size≤100000000000:=λj=>by
    unfold cS;split
    ·exact aml _
    ·have h1:=El (x / DD ^ j)
     have h2:Lw (x / DD ^ j)≤Lw x:=fK (aon _ _);omega
   have hstep:∀j,j<k->cS x (j+1)++ptS x j=cS x j:=λj hj=>aef x j (λh=>by have:=(hN0 j).1 h;omega)
   have hpos:0<(bF x).size:=by rw[kE];exact jW x
   have hptz:=Nl x;have hptg:∀j,j<k->(ptL x k).getD j .empty=ptS x j:=λj hj=>aej hj;by_cases hn:a.s<0
   ·rw[if_pos hn]
    refine wk2 (λhq hq=>?_) λhq hq=>?_;all_goals first
     |exact hz272
     |decide
     |skip
    conv=>whnf
    refine aR (X:=Nat) (λj=>j≤k) (λj=>[(11,.int .i64 ((j:Int)-1)),(67,.any)]) (λj=>[(20,.bld 272 5 (kMi++cS x j))]) (λj=>j) k ⟨aH,mixed,ak,qC,aN⟩ qqR qqO ?_ ?_
    ·rw[hcN]
     exact wk0;all_goals first|rfl
    intro j hj;have hcj:=hcs j;have hsgz:(kMi:ByteArray).size≤1:=qqD;cases j with
    |zero=>
     refine wk2 (λhq=>?_) λhq=>?_;all_goals(try simp only[hc0])
     all_goals first
      |(rw[ByteArray.size_append];omega)
      |exact Sup.of rfl
    |succ j=>
     have hcj1:=hcs (j+1);have hpj:=hptz j;have e1:=hptg j qqO;have e2:=hstep j qqO;rw[show((j+1:Nat):Int)-1=(j:Int) by omega]
     refine wk2 (λhq=>?_) λhq=>?_;all_goals(try simp only[anG])
     all_goals(try rw[e1])
     all_goals first
      |omega
      |(rw[ByteArray.size_append];omega)
      |(rw[ByteArray.append_assoc,e2]
        refine⟨j,[],⟨qqO,qqO⟩,?_⟩;exact wk0;all_goals skip)
   ·rw[if_neg hn]
    refine wk1 λhq hq=>?_;all_goals first
     |exact hz272
     |decide
     |skip
    conv=>whnf
    refine aR (X:=Nat) (λj=>j≤k) (λj=>[(11,.int .i64 ((j:Int)-1)),(67,.any)]) (λj=>[(20,.bld 272 5 (ByteArray.empty++cS x j))]) (λj=>j) k ⟨aH,mixed,ak,qC,aN⟩ qqR qqO ?_ ?_
    ·rw[hcN]
     exact wk0;all_goals first|rfl
    intro j hj;have hcj:=hcs j;have hsgz:(ByteArray.empty:ByteArray).size≤1:=qqD;cases j with
    |zero=>
     refine wk2 (λhq=>?_) λhq=>?_;all_goals(try simp only[hc0])
     all_goals first
      |(rw[ByteArray.size_append];omega)
      |exact Sup.of rfl
    |succ j=>
     have hcj1:=hcs (j+1);have hpj:=hptz j;have e1:=hptg j qqO;have e2:=hstep j qqO;rw[show((j+1:Nat):Int)-1=(j:Int) by omega]
     refine wk2 (λhq=>?_) λhq=>?_;all_goals(try simp only[anG])
     all_goals(try rw[e1])
     all_goals first
      |omega
      |(rw[ByteArray.size_append];omega)
      |(rw[ByteArray.append_assoc,e2]
        refine⟨j,[],⟨qqO,qqO⟩,?_⟩;exact wk0;all_goals skip)
def QS:PSp:=λxs K=>match xs with| [p]=>ni1 p λa=>VC (a.OK/\a.L≤500000000)/\K (.str (itB a.val))|_=>False
theorem Nn:POK Tryz.prog 235 QS:=uO (C:=λa=>a.OK/\a.L≤500000000) (r:=λa=>.str (itB a.val)) λa h=>Yq a h.1 h.2
def tlB (l:List UInt8) (i:Nat):ByteArray:=⟨(l.drop i).toArray⟩
theorem lX (s:ByteArray):(⟨s.data.toList.toArray⟩:ByteArray)=s:=by cases s;simp
theorem ext_list (s:ByteArray) (a b:Nat):(s.extract a b).data.toList=(s.data.toList.drop a).take (b-a):=by
 rw[ByteArray.data_extract];simp[Array.toList_extract,List.extract_eq_take_drop]
theorem ext_eq (s:ByteArray) (a b:Nat):s.extract a b=⟨((s.data.toList.drop a).take (b-a)).toArray⟩:=by
 rw[<-ext_list,lX]
theorem Jy (l:List UInt8) (i:Nat):(tlB l i).size=l.length-i:=by
 show(aoM _).size=_;simp
theorem Yr (l:List UInt8) (i n:Nat):(tlB l i).extract 0 n=⟨((l.drop i).take n).toArray⟩:=by
 rw[ext_eq];simp[tlB]
theorem Yt (l:List UInt8) (i n:Nat):(tlB l i).extract n (tlB l i).size=tlB l (i+n):=by
 rw[ext_eq,Jy];unfold tlB;congr 1;rw[List.drop_drop,List.take_of_length_le (by simp;omega)]
def rdI (s:ByteArray):Int:=if preB s kMi then-(vB (dQ s kMi):Int)else(vB (dQ s kMi):Int)
theorem Jz {l:List UInt8} (h:isD l) (n:Nat):isD (l.take n):=λb hb=>h b (List.mem_of_mem_take hb)
theorem Yu {l:List UInt8} (h:isD l) (n:Nat):isD (l.drop n):=λb hb=>h b (List.mem_of_mem_drop hb)
theorem Gy {l:List UInt8} (h:isD l):vD l<10 ^ l.length:=by
 induction l with
 |nil=>simp[vD]
 |cons b r ih=>
  have hb:=h b qqS;have hr:=ih λc hc=>h c (ani _ hc);have e:vD (b::r)=vD [b]*10 ^ r.length+vD r:=CB [b] r;rw[e,wX,alj,anu];have h1:(b.toNat-48+1)*10 ^ r.length≤10*10 ^ r.length:=al2 _ qqO;rw[al3]at h1;omega
theorem aj8 {l:List UInt8} (h:isD l):Lw (vD l)≤l.length:=by
 refine qV (alp (Gy h) ?_);exact aoP qqD _
noncomputable def aj9:CPT:=ay 226 (aJ Yi) (ay 227 (aJ QF) (ay 228 (aJ QJ) (ay 108 (aU ofP) (ay 229 (aU Ju) (ay 110 (aU uT) (ay 109 (aU Ec) (ay 201 (aU zU) noC)))))))
theorem Np:aZ Tryz.prog aj9:=aj (aA ahw) (aj (aA UF) (aj (aA aeb) (aj (aF oU) (aj (aF Yc) (aj (aF pI) (aj (aF wV) (aj (aF rZ) aC)))))))
theorem UN (s:ByteArray) (hs:s.size≤1000000000) (hd:mM (dQ s kMi)):aB Tryz.prog 179 [.str s] (niV (nrm (rdI s))):=by
 have hcs:(dQ s kMi).size≤1000000000:=by
  have e1:s.size=s.data.toList.length:=by rw[alY];rfl
  have e2:(dQ s kMi).size=(Go.Lib.trimPrefix s.data.toList (kMi:ByteArray).data.toList).length:=by
   show(aoM _).size=_;rw[aoN]
  rw[e2];unfold Go.Lib.trimPrefix;split
  ·rw[amJ];omega
  ·omega
 unfold rdI vB;unfold mM at hd;have el:dQ s kMi=tlB (dQ s kMi).data.toList 0:=by unfold tlB;rw[aoR,lX]
 have ell:(dQ s kMi).data.toList.length=(dQ s kMi).size:=by rw[alY];rfl
 rw[<-ell]at hcs;generalize hl:(dQ s kMi).data.toList=l at*
 refine au (md:=1) (rf:=[]) mixed ak Np Tryz.func179 qqR qqR qqR ?_;refine wk1 ?_;conv=>whnf
 refine aR (X:=Nat) (λi=>i≤l.length) (λi=>[(0,.str (tlB l i)),(5,.any),(6,.any),(7,.any),(19,.any),(23,.any)]) (λi=>[(9,.cells (.pv [.int .i64 (nr (vD (l.take i))).s,.nnl (.ints .u64 (nr (vD (l.take i))).w)]) false)]) (λi=>l.length-i) 0 ⟨aH,mixed,ak,Np,aN⟩ qqR qqO ?_ ?_
 ·have e0:nr (vD (l.take 0))=⟨0,[]⟩:=iZ (by rw[aoS];simp[vD])
  rw[e0]
  repeat'((conv=>whnf);first|intro _|apply aI|exact aD|apply nM|apply fM)
  all_goals((try apply vM);(try simp only[vq]at*);try omega)
  all_goals first|exact congrArg PV.str el|exact el
 intro i hi;have hz:=Jy l i;have hL:∀j,(nr (vD (l.take j))).L≤1000000000:=λj=>by
  rw[NI.L_nrm];refine als (aj8 (Jz hd j)) ?_;rw[amh];omega
 by_cases hlt:i<l.length
 ·obtain⟨n,hn,hn1⟩:∃n:Nat,min (18:Int) ((tlB l i).size:Int)=(n:Int)/\n=min 18 (l.length-i):=⟨min 18 (l.length-i),qqO,rfl⟩
  rw[hz]at hn;have htl:(tlB l i).extract n (l.length-i)=tlB l (i+n):=by rw[<-hz];exact Yt l i n
  have hdn:isD ((l.drop i).take n):=Jz (Yu hd i) n;have hln:((l.drop i).take n).length=n:=by rw[amh,amJ];omega
  have hv:=Gy hdn;rw[hln]at hv;have h18:10 ^ n≤10 ^ 18:=anL qqO qqO;have hap:l.take (i+n)=l.take i++(l.drop i).take n:=by rw[List.take_add]
  have hnext:vD (l.take (i+n))=vD (l.take i)*10 ^ n+vD ((l.drop i).take n):=by rw[hap,CB,hln]
  have hsn:(⟨((l.drop i).take n).toArray⟩:ByteArray).size=n:=by
   show(aoM _).size=_;rw[aoN,hln]
  have hvn:vB ⟨((l.drop i).take n).toArray⟩=vD ((l.drop i).take n):=by unfold vB;simp
  have hin:mM ⟨((l.drop i).take n).toArray⟩:=by unfold mM;simpa using hdn
  have hp10:(nr (10 ^ n)).L≤1000000000:=by
   rw[NI.L_nrm];exact als (ow (Uu n qqO)) qqD
  generalize hvv:vD ((l.drop i).take n)=v at*
  have hmul:nrm ((nr (vD (l.take i))).val*(nr (10 ^ n)).val)=nr (vD (l.take i)*10 ^ n):=by
   rw[bg,bg,<-an9]
  have hmL:(nr (vD (l.take i)*10 ^ n)).L≤100000000000:=by
   rw[NI.L_nrm];have h1:=ou (vD (l.take i)) (10 ^ n);have h2:=hL i;rw[NI.L_nrm]at h2 hp10;show Lw (vD (l.take i)*10 ^ n)≤_;have h3:Lw (vD (l.take i))≤1000000000:=h2;have h4:Lw (10 ^ n)≤1000000000:=hp10;omega
  have hadd:addN (nr (vD (l.take i)*10 ^ n)) ⟨(v:Int),[]⟩=nr (vD (l.take (i+n))):=by
   rw[Jt,bg,NI.val_sm,hnext,<-aoa];rw[bg,NI.val_sm];omega
  have hvo:(NI.OK ⟨(v:Int),[]⟩):=.inl ⟨rfl,by unfold smI;simp only;omega⟩
  have hvL:(NI.L ⟨(v:Int),[]⟩)≤100000000000:=by
   unfold NI.L;rw[NI.val_sm];exact als (ow qqO) qqD
  repeat'((conv=>whnf);first|(intro hq;(try simp only[vw]at hq);try exact aV hq)|apply aI|exact aD|apply nM|apply fM)
  all_goals((try apply vM);(try simp only[vq]at*);try omega)
  all_goals(try simp only[hz,hn,anG,Yr,htl,hsn,hvn,dD,hmul,hadd])
  all_goals first
   |omega
   |exact⟨qqO,qqO,hin⟩
   |exact⟨rfl,qqO,qqO⟩
   |exact⟨bQ _,bQ _,als (hL i) qqD,als hp10 qqD⟩
   |exact⟨bQ _,hvo,hmL,hvL⟩
   |(refine⟨i+n,[],⟨qqO,qqO⟩,?_⟩
     all_goals exact iG)
 ·have hil:i=l.length:=qqO
  subst hil;have hlL:=hL l.length;rw[anH]at hlL⊢;by_cases hpre:preB s kMi=true
  ·rw[if_pos hpre]
   repeat'((conv=>whnf);first|(intro hq;(try simp only[vw]at hq);try exact aV hq)|apply aI|exact aD|apply nM|apply fM)
   all_goals((try apply vM);(try simp only[vq]at*);try omega)
   all_goals(try simp only[dD,bg])
   all_goals first
    |exact⟨bQ _,als hlL qqD⟩
    |exact Sup.of rfl
    |(exfalso;simp_all;done)
  ·rw[if_neg hpre]
   repeat'((conv=>whnf);first|(intro hq;(try simp only[vw]at hq);try exact aV hq)|apply aI|exact aD|apply nM|apply fM)
   all_goals((try apply vM);(try simp only[vq]at*);try omega)
   all_goals first
    |exact Sup.of rfl
    |(exfalso;simp_all;done)
end Go.Eng.YtmkagljofpddpaaGreatDoor
namespace Go.Eng.YtmkagljofpddpaaGreatDoor
open Go.Eng.Dig
set_option linter.unusedSimpArgs false
set_option linter.unusedVariables false
def RL (q:Rat):Nat:=max (Lw q.num.natAbs) (Lw q.den)
theorem norm_le (n:Int) (d:Nat) (h:d≠0):(Rat.normalize n d h).num.natAbs≤n.natAbs/\(Rat.normalize n d h).den≤d:=by
 rw[Rat.normalize_eq];refine⟨?_,aon _ _⟩;simp only;have h1:n / ((n.natAbs.gcd d:Nat):Int)=n.tdiv ((n.natAbs.gcd d:Nat):Int):=by
  rw[Int.tdiv_eq_ediv_of_dvd];exact aoT.2 (aoU _ _)
 rw[h1,Int.natAbs_tdiv];exact aon _ _
theorem pK {n:Int} {d:Nat} (h:d≠0) {k:Nat} (h1:Lw n.natAbs≤k) (h2:Lw d≤k):RL (Rat.normalize n d h)≤k:=by
 obtain⟨g1,g2⟩:=norm_le n d h;have:=fK g1;have:=fK g2;unfold RL;omega
theorem Nq (a b:Int):Lw (a+b).natAbs≤max (Lw a.natAbs) (Lw b.natAbs)+1:=
 als (fK (Int.natAbs_add_le a b)) (Ue _ _)
theorem UO (p q:Rat):RL (p+q)≤RL p+RL q+1:=by
 rw[Rat.add_def];have a1:=ou p.num.natAbs q.den;have a2:=ou q.num.natAbs p.den;have a3:=ou p.den q.den;refine pK _ ?_ ?_
 ·refine als (Nq _ _) ?_
  rw[aoV,aoV,aoW,aoW];unfold RL;omega
 ·unfold RL
  omega
theorem ahx (p q:Rat):RL (p*q)≤RL p+RL q:=by
 rw[Rat.mul_def];have a1:=ou p.num.natAbs q.num.natAbs;have a3:=ou p.den q.den;refine pK _ ?_ ?_
 ·rw[aoV]
  unfold RL;omega
 ·unfold RL
  omega
theorem JA (q:Rat):RL (-q)=RL q:=by
 unfold RL;rw[Rat.neg_num,Rat.neg_den,aoi]
theorem ahy (p q:Rat):RL (p-q)≤RL p+RL q+1:=by
 rw[Rat.sub_eq_add_neg];have:=UO p (-q);rw[JA]at this;exact this
theorem JB (q:Rat):Lw q.num.natAbs≤RL q:=by unfold RL;omega
theorem JC (q:Rat):Lw q.den≤RL q:=by unfold RL;omega
theorem ahz (q:Rat):RL q⁻¹≤RL q:=by
 rw[Rat.inv_def];by_cases h:q.num=0
 ·rw[h,Rat.divInt_zero]
  have:RL 0≤RL q:=by
   unfold RL;have h1:Lw (0:Rat).den≤Lw q.den:=fK (by have:=q.den_nz;show 1≤q.den;omega)
   have h2:Lw (0:Rat).num.natAbs=0:=rfl;omega
  exact this
 ·rcases aoX h with hn|hp
  ·obtain⟨m,hm⟩:∃m:Nat,q.num= -(m:Int):=⟨q.num.natAbs,qqO⟩
   rw[hm,<-Rat.neg_divInt_neg,Int.neg_neg,Rat.divInt_ofNat,Rat.mkRat_def,dif_neg qqO];refine pK _ ?_ ?_
   ·rw[aoi,aoW];exact JC q
   ·have:=JB q;rw[hm]at this;simpa using this
  ·obtain⟨m,hm⟩:∃m:Nat,q.num=(m:Int):=⟨q.num.natAbs,qqO⟩
   rw[hm,Rat.divInt_ofNat,Rat.mkRat_def,dif_neg qqO];refine pK _ ?_ ?_
   ·rw[aoW];exact JC q
   ·have:=JB q;rw[hm]at this;simpa using this
end Go.Eng.YtmkagljofpddpaaGreatDoor
namespace Go.Eng.YtmkagljofpddpaaGreatDoor
open Go.Proofs Go.Eng.Dig Go.Eng.Dec
set_option linter.unusedSimpArgs false
set_option linter.unusedVariables false
structure Fr where
 n:NI
 d:NI
abbrev frV (a:Fr):PV:=.agg [.int .i64 a.n.s,.nnl (.ints .u64 a.n.w),.int .i64 a.d.s,.nnl (.ints .u64 a.d.w)]
structure Fr.OK (a:Fr):Prop where
 n:a.n.OK
 d:a.d.OK
 pos:0<a.d.val
 red:Nat.Coprime a.n.val.natAbs a.d.val.natAbs
def Fr.val (a:Fr):Rat:=Rat.divInt a.n.val a.d.val
theorem Fr.num {a:Fr} (h:a.OK):a.val.num=a.n.val:=by
 unfold Fr.val;rw[Rat.num_divInt,aoY h.pos,aoZ];have:a.d.val.gcd a.n.val=1:=by
  unfold ao0;rw[aoG];exact h.red
 rw[this];simp
theorem Fr.den {a:Fr} (h:a.OK):(a.val.den:Int)=a.d.val:=by
 unfold Fr.val;have hp:=h.pos;rw[Rat.den_divInt,if_neg qqO];have:a.d.val.gcd a.n.val=1:=by
  unfold ao0;rw[aoG];exact h.red
 rw[this,amb];omega
theorem Fr.d_nr {a:Fr} (h:a.OK):a.d=nr a.val.den:=by
 have h1:=Fr.den h;have h2:=h.pos;rw[Jk h.d qqO];show nrm _=nrm _;rw[h1]
def can (q:Rat):Fr:=⟨nrm q.num,nr q.den⟩
theorem d9 (q:Rat):(can q).val=q:=by
 unfold Fr.val can;rw[bg,bg];exact Rat.num_divInt_den q
theorem den_pos (q:Rat):0<q.den:=al5 q.den_nz
theorem eY (q:Rat):(can q).OK:=by
 refine⟨bQ _,bQ _,?_,?_⟩
 ·show 0<(nrm _).val
  rw[bg];have:=den_pos q;omega
 ·show Nat.Coprime (nrm _).val.natAbs (nrm _).val.natAbs
  rw[bg,bg];exact q.reduced
def Fr.L (a:Fr):Nat:=RL a.val
theorem Fr.nL {a:Fr} (h:a.OK):a.n.L≤a.L:=by
 unfold NI.L Fr.L;rw[<-Fr.num h];exact JB _
theorem Fr.dL {a:Fr} (h:a.OK):a.d.L≤a.L:=by
 unfold NI.L Fr.L;rw[<-Fr.den h];exact JC _
theorem mO (q:Rat):(can q).L=RL q:=by unfold Fr.L;rw[d9]
def gF (a b:NI):Fr:=if b.val=1 then⟨a,b⟩else can (Rat.divInt a.val b.val)
theorem kM (n:Int):(Rat.divInt n 1).num=n/\(Rat.divInt n 1).den=1:=by
 rw[Rat.num_divInt,Rat.den_divInt,if_neg qqO];simp
theorem FC {a b:NI}:(gF a b).val=Rat.divInt a.val b.val:=by
 unfold gF;split
 ·rfl
 ·exact d9 _
theorem Yv {a b:NI} (ha:a.OK) (hb:b.OK):(gF a b).OK:=by
 unfold gF;split
 ·rename_i h
  refine⟨ha,hb,by show 0<b.val;omega,?_⟩
  show Nat.Coprime a.val.natAbs b.val.natAbs;rw[h];exact ao1 _
 ·exact eY _
theorem JD {b:NI} (hb:b.OK) (h:b.val=1):b=gD:=by
 rw[Jk hb qqO,h];exact iZ qqO
theorem QU {b:NI} (hb:b.OK):(b.w=[]/\b.s=1)↔b.val=1:=by
 constructor
 ·rintro⟨h1,h2⟩
  rw[gQ h1,h2]
 ·intro h
  rw[JD hb h];exact⟨rfl,rfl⟩
theorem Nr {a b:Int} (hb:0<b):(Rat.divInt a b).num=a / ((aoF a.natAbs b.natAbs:Nat):Int)/\((Rat.divInt a b).den:Int)=b / ((aoF a.natAbs b.natAbs:Nat):Int):=by
 rw[Rat.num_divInt,Rat.den_divInt,if_neg qqO,aoY hb,aoZ];have e:b.gcd a=aoF a.natAbs b.natAbs:=by unfold ao0;exact aoG _ _
 rw[e];refine⟨rfl,?_⟩;rw[aol,show((b.natAbs:Nat):Int)=b by omega]
theorem Yw {a b:NI} (hb:0<b.val) (h1:b.val≠1):(⟨nrm (a.val / ((aoF a.val.natAbs b.val.natAbs:Nat):Int)),nrm (b.val / ((aoF a.val.natAbs b.val.natAbs:Nat):Int))⟩:Fr)=gF a b:=by
 unfold gF can;rw[if_neg h1];obtain⟨e1,e2⟩:=Nr (a:=a.val) hb;rw[<-e1,<-e2]
theorem zZ (a b:Int):Rat.divInt (-a) (-b)=Rat.divInt a b:=Rat.neg_divInt_neg a b
theorem Yx {a b:NI} (hb:b.val<0) (h1:b.val≠ -1):(⟨nrm (-a.val / ((aoF a.val.natAbs b.val.natAbs:Nat):Int)),nrm (-b.val / ((aoF a.val.natAbs b.val.natAbs:Nat):Int))⟩:Fr)=gF a b:=by
 unfold gF can;rw[if_neg qqO];obtain⟨e1,e2⟩:=Nr (a:= -a.val) (b:= -b.val) qqO;rw[zZ,aoi,aoi]at e1 e2;rw[<-e1,<-e2]
theorem aek {a b:NI} (hb:b.val= -1):(⟨nrm (-a.val),nrm 1⟩:Fr)=gF a b:=by
 unfold gF can;rw[if_neg qqO,<-zZ,hb];show _=(⟨nrm (Rat.divInt (-a.val) 1).num,nr (Rat.divInt (-a.val) 1).den⟩:Fr);rw[(kM _).1,(kM _).2];rfl
theorem UQ {a b:Int} (hb:b≠0) {k:Nat} (h1:Lw a.natAbs≤k) (h2:Lw b.natAbs≤k):RL (Rat.divInt a b)≤k:=by
 rcases aoX hb with h|h
 ·rw[<-zZ]
  obtain⟨m,hm⟩:∃m:Nat,-b=(m:Int):=⟨b.natAbs,qqO⟩;rw[hm,Rat.divInt_ofNat,Rat.mkRat_def,dif_neg qqO];exact pK _ (by rw[aoi];exact h1) (by rw[show m=b.natAbs by omega];exact h2)
 ·obtain⟨m,hm⟩:∃m:Nat,b=(m:Int):=⟨b.natAbs,qqO⟩
  rw[hm,Rat.divInt_ofNat,Rat.mkRat_def,dif_neg qqO];exact pK _ h1 (by rw[show m=b.natAbs by omega];exact h2)
theorem ael {a:Fr} (h:a.OK):(⟨nrm (-a.n.val),a.d⟩:Fr)=can (-a.val):=by
 unfold can;rw[Rat.neg_num,Rat.neg_den,Fr.num h,<-Fr.d_nr h]
def kU (a b:Fr):Fr:=if a.d.val=1/\b.d.val=1 then⟨addN a.n b.n,gD⟩else can (a.val+b.val)
def iP (a b:Fr):Fr:=kU a (can (-b.val))
theorem z8 {a b:Fr} (ha:a.OK) (hb:b.OK):(kU a b).val=a.val+b.val:=by
 unfold kU;split
 ·rename_i h
  unfold Fr.val;simp only;rw[uQ,Js,h.1,h.2,Rat.divInt_add_divInt _ _ qqO qqO];simp
 ·exact d9 _
theorem Ns {a b:Fr} (ha:a.OK) (hb:b.OK):(kU a b).OK:=by
 unfold kU;split
 ·refine⟨Ea _ _,Ei,by show 0<gD.val;rw[Js];decide,?_⟩
  exact ao1 _
 ·exact eY _
theorem Aa {a b:Fr} (ha:a.OK) (hb:b.OK):(iP a b).val=a.val-b.val:=by
 unfold iP;rw[z8 ha (eY _),d9,Rat.sub_eq_add_neg]
theorem Nt {a b:Fr} (ha:a.OK) (hb:b.OK):(iP a b).OK:=Ns ha (eY _)
theorem Yy {a b:Fr} (ha:a.OK) (hb:b.OK) (h:¬(a.d.val=1/\b.d.val=1)):gF (addN (nrm (a.n.val*b.d.val)) (nrm (b.n.val*a.d.val))) (nrm (a.d.val*b.d.val))=kU a b:=by
 have h1:=ha.pos;have h2:=hb.pos;have hne:a.d.val*b.d.val≠1:=λe=>h (by
  exact⟨Int.eq_one_of_mul_eq_one_right qqO e,Int.eq_one_of_mul_eq_one_left qqO e⟩)
 unfold kU gF;rw[if_neg h,bg,if_neg hne,uQ,bg,bg];unfold Fr.val;rw[Rat.divInt_add_divInt _ _ qqO qqO]
theorem Yz {a b:Fr} (ha:a.OK) (hb:b.OK):gF (nrm (a.n.val*b.n.val)) (nrm (a.d.val*b.d.val))=can (a.val*b.val):=by
 have h1:=ha.pos;have h2:=hb.pos;have hv:a.val*b.val=Rat.divInt (a.n.val*b.n.val) (a.d.val*b.d.val):=by
  unfold Fr.val;rw[Rat.divInt_mul_divInt]
 unfold gF;rw[bg,bg];split
 ·rename_i e
  rw[hv,e];unfold can;rw[(kM _).1,(kM _).2];rfl
 ·rw[hv]
theorem YA {a:Fr} (ha:a.OK) (h0:a.val≠0):gF a.d a.n=can (a.val⁻¹):=by
 have hn:a.n.val≠0:=λe=>h0 (by rw[<-Rat.num_eq_zero,Fr.num ha,e])
 have hv:a.val⁻¹=Rat.divInt a.d.val a.n.val:=by rw[Rat.inv_def,Fr.num ha,Fr.den ha]
 unfold gF;split
 ·rename_i e
  rw[hv,e];unfold can;rw[(kM _).1,(kM _).2];have:=JD ha.n e;have h3:=Fr.den ha;have h4:=Fr.d_nr ha;rw[this,<-h3];show(⟨a.d,gD⟩:Fr)=⟨nr a.val.den,nrm 1⟩;rw[<-h4,iZ qqO];rfl
 ·rw[hv]
def txQ (q:Rat):ByteArray:=if q.den=1 then itB q.num else itB q.num++kSl++bF q.den
end Go.Eng.YtmkagljofpddpaaGreatDoor
namespace Go.Eng.YtmkagljofpddpaaGreatDoor
open Go.Proofs Go.Eng.Dig Go.Eng.Dec
set_option linter.unusedSimpArgs false
set_option linter.unusedVariables false
set_option maxHeartbeats 0
set_option maxRecDepth 100000
def Gz:PSp:=λxs K=>match xs with
 | [.str s]=>VC (s.size≤1000000000/\mM (dQ s kMi))/\K (niV (nrm (rdI s)))
 |_=>False
theorem Nu:POK Tryz.prog 179 Gz:=by
 intro xs K hk;unfold Gz at hk;split at hk
 ·exact⟨_,hk.2,UN _ hk.1.get.1 hk.1.get.2⟩
 ·exact hk.elim
def lgI (v:Int):Bool:=decide (600<(bF v.natAbs).size)
set_option exponentiation.threshold 4000 in
theorem aem {x:Nat} (h:qX x≤1800):(bF x).size≤600:=by
 have h1:=Ye x;have h2:2 ^ qX x≤2 ^ 1800:=anL qqO h;have h3:2 ^ (3*600)=(2 ^ 3) ^ 600:=aoO 2 3 600;have h4:(2 ^ 3) ^ 600<10 ^ 600:=Nat.pow_lt_pow_left qqD qqD;rw[kE];refine mK 599 x ?_;rw[show 1800=3*600 from rfl,h3]at h2;exact alp h1 (anZ (an4 h2 h4))
theorem w9 (x:Nat):preB (bF x) kMi=false:=by
 unfold preB bF Go.Lib.hasPrefix;obtain⟨b,r,e⟩:∃b r,Go.Lib.decDigits x=b::r:=by
  have:=jW x;cases h:Go.Lib.decDigits x with
  |nil=>rw[h]at this;simp at this
  |cons b r=>exact⟨b,r,rfl⟩
 have hb:=sF x b (by rw[e];simp)
 simp only[e];show ao2 [45] (b::r)=false;simp only[ao2,Bool.and_true,beq_eq_false_iff_ne];intro h;subst h;simp at hb
theorem yG (v:Int):dQ (itB v) kMi=bF v.natAbs:=by
 rw[gX];unfold sgB;split
 ·unfold dQ Go.Lib.trimPrefix
  have e:(kMi++bF v.natAbs).data.toList=45::Go.Lib.decDigits v.natAbs:=by
   unfold bF;rw[show(kMi:ByteArray)=⟨([45]:List UInt8).toArray⟩from rfl,wZ];rfl
  rw[e];rfl
 ·rw[ByteArray.empty_append]
  have:=w9 v.natAbs;unfold preB at this;unfold dQ Go.Lib.trimPrefix;rw[this];exact lX _
theorem YB {b c:Bool} (h:b=c):Sup (.bool b) (.bp c):=⟨λhr=>by subst h;cases hr;exact .bp _ _⟩
noncomputable def akb:CPT:=ay 260 (aU abv) (ay 235 (aU QS) (ay 227 (aJ QF) noC))
theorem aen:aZ Tryz.prog akb:=aj (aF ad5) (aj (aF Nn) (aj (aA UF) aC))
theorem UR (a:NI) (ha:a.OK) (hLa:a.L≤500000000):aB Tryz.prog 234 [niV a] (.bp (lgI a.val)):=by
 unfold lgI;have hb:= @aem a.val.natAbs;have hc:=yG a.val;refine au (md:=1) (rf:=[]) mixed ak aen Tryz.func234 qqR qqR qqR ?_;refine wk4 ?_ (λhq=>?_) (λhq=>?_) λhq=>?_;all_goals(try simp only[dD,hc])
 all_goals first
  |exact⟨ha,als hLa qqD⟩
  |exact⟨ha,hLa⟩
  |(refine Sup.of (congrArg PV.bp ?_);simp;omega)
  |(refine Sup.of (congrArg PV.bp ?_);rw[decide_eq_decide];omega)
  |(refine YB (Eq.symm (decide_eq_false ?_));have:=hb (by simp only[dD]at hq;omega);omega)
def abw:PSp:=λxs K=>match xs with| [p]=>ni1 p λa=>VC (a.OK/\a.L≤500000000)/\K (.bp (lgI a.val))|_=>False
theorem aeo:POK Tryz.prog 234 abw:=uO (C:=λa=>a.OK/\a.L≤500000000) (r:=λa=>.bp (lgI a.val)) λa h=>UR a h.1 h.2
def nw (p:PV) (K:List Int->Prop):Prop:=match p with
 |.nnl (.ints .u64 l)=>K l
 |.nils=>K []
 |.isl (.ints .u64 l) .none=>VC (l≠[])/\K l
 |_=>False
theorem UU {p:PV} {K:List Int->Prop} (h:nw p K):∃l,K l/\∀(S:Imm) (w:World) (v:Value),Rep S w noI p v->Rep S w noI (.nnl (.ints .u64 l)) v:=by
 unfold nw at h;split at h
 ·exact⟨_,h,λ_ _ _ h=>h⟩
 ·exact⟨_,h,λ_ _ _ h=>by cases h;exact .nnl0 _ _ rfl⟩
 ·rename_i l
  refine⟨_,h.2,λS w v hv=>?_⟩;have h0:0<l.length:=aog.2 h.1.get;cases hv with
  |islnil _ _ _ h=>exact absurd h (Nat.ne_of_gt h0)
  |isl _ _ _ b off cap hc hs hh hf ho=>exact .nnl1 _ _ b off cap h0 hc hs hh
 ·exact h.elim
def fr1 (p:PV) (K:Fr->Prop):Prop:=match p with
 |.agg [.int .i64 s,x,.int .i64 t,y]=>nw x λl=>nw y λm=>K ⟨⟨s,l⟩,⟨t,m⟩⟩
 |_=>False
theorem pO {p:PV} {K:Fr->Prop} (h:fr1 p K):∃a,K a/\∀(S:Imm) (w:World) (v:Value),Rep S w noI p v->Rep S w noI (frV a) v:=by
 unfold fr1 at h;split at h
 ·rename_i s x t y
  obtain⟨l,h,hl⟩:=UU h;obtain⟨m,h,hm⟩:=UU h;refine⟨_,h,λS w v hr=>?_⟩;cases hr with
  |agg _ _ vs hn hh=>
   refine .agg _ _ vs hn λi hi=>?_
   match i,hi with
   |0,_=>exact hh 0 qqS
   |1,_=>exact hl _ _ _ (hh 1 qqS)
   |2,_=>exact hh 2 qqS
   |3,_=>exact hm _ _ _ (hh 3 qqS)
 ·exact h.elim
theorem Ab {g:FuncId} {C:Fr->Prop} {r:Fr->PV} (h:∀a,C a->aB Tryz.prog g [frV a] (r a)):POK Tryz.prog g (λxs K=>match xs with| [p]=>fr1 p λa=>VC (C a)/\K (r a)|_=>False):=by
 intro xs K hk;split at hk
 ·obtain⟨a,⟨h1,h2⟩,h3⟩:=pO hk
  exact⟨_,h2,MW h3 (h a h1.get)⟩
 ·exact hk.elim
theorem JE {g:FuncId} {C:Fr->Fr->Prop} {r:Fr->Fr->PV} (h:∀a b,C a b->aB Tryz.prog g [frV a,frV b] (r a b)):POK Tryz.prog g (λxs K=>match xs with| [p,q]=>fr1 p λa=>fr1 q λb=>VC (C a b)/\K (r a b)|_=>False):=by
 intro xs K hk;split at hk
 ·obtain⟨a,hk,h3⟩:=pO hk
  obtain⟨b,⟨h1,h2⟩,h4⟩:=pO hk;exact⟨_,h2,D7 h3 h4 (h a b h1.get)⟩
 ·exact hk.elim
theorem cu (a:Fr):(⟨⟨a.n.s,a.n.w⟩,⟨a.d.s,a.d.w⟩⟩:Fr)=a:=rfl
noncomputable def akc:CPT:=ay 108 (aU ofP) noC
theorem aep:aZ Tryz.prog akc:=aj (aF oU) aC
theorem QV (a:NI):aB Tryz.prog 112 [niV a] (frV ⟨a,gD⟩):=by
 refine au (md:=1) (rf:=[]) mixed ak aep Tryz.func112 qqR qqR qqR ?_;refine wk1 ?_;all_goals(refine Sup.via ?_;repeat'((conv=>whnf);first|intro _|apply aI|exact aD|apply nM|apply fM);all_goals((try apply vM);(try simp only[vq]at*);try omega))
 all_goals(unfold gD;rfl)
def xu:PSp:=λxs K=>match xs with| [p]=>ni1 p λa=>VC True/\K (frV ⟨a,gD⟩)|_=>False
theorem uW:POK Tryz.prog 112 xu:=uO (C:=λ_=>True) (r:=λa=>frV ⟨a,gD⟩) λa _=>QV a
noncomputable def akd:CPT:=ay 108 (aU ofP) (ay 112 (aU xu) noC)
theorem aer:aZ Tryz.prog akd:=aj (aF oU) (aj (aF uW) aC)
theorem aes (n:Int):aB Tryz.prog 132 [.int .i64 n] (frV ⟨⟨n,[]⟩,gD⟩):=by
 refine au (md:=1) (rf:=[]) mixed ak aer Tryz.func132 qqR qqR qqR ?_;refine wk1 ?_;all_goals(refine Sup.via ?_;repeat'((conv=>whnf);first|intro _|apply aI|exact aD|apply nM|apply fM);all_goals((try apply vM);(try simp only[vq]at*);try omega))
def ffP:PSp:=λxs K=>match xs with
 | [.int .i64 n]=>VC (True)/\K (frV ⟨⟨n,[]⟩,gD⟩)
 |_=>False
theorem CG:POK Tryz.prog 132 ffP:=by
 intro xs K h;unfold ffP at h;split at h
 ·exact⟨_,h.2,aes _⟩
 ·exact h.elim
theorem YC (a:Fr) (h:a.OK):aB Tryz.prog 116 [frV a] (.bp (decide (a.d.val=1))):=by
 have h1:=QU h.d;have h2:a.d.w.length=0↔a.d.w=[]:=amT;refine au (md:=1) (rf:=[]) mixed ak aC Tryz.func116 qqR qqR qqR ?_;refine wk2 (λhq=>?_) λhq=>?_;all_goals first
  |(refine Sup.of (congrArg PV.bp ?_);rw[decide_eq_decide,<-h1];exact⟨λh=>⟨h2.1 qqO,h⟩,λh=>h.2⟩)
  |(refine YB (Eq.symm (decide_eq_false λh=>?_));have:=h1.2 h;have:=h2.2 this.1;omega)
def QW:PSp:=λxs K=>match xs with| [p]=>fr1 p λa=>VC a.OK/\K (.bp (decide (a.d.val=1)))|_=>False
theorem JF:POK Tryz.prog 116 QW:=Ab (C:=Fr.OK) (r:=λa=>.bp (decide (a.d.val=1))) YC
noncomputable def ake:CPT:=ay 194 (aU uP) noC
theorem aeu:aZ Tryz.prog ake:=aj (aF pG) aC
theorem YD (a:Fr) (h:a.OK):aB Tryz.prog 117 [frV a] (.int .i64 (fC a.n.val)):=by
 refine au (md:=1) (rf:=[]) mixed ak aeu Tryz.func117 qqR qqR qqR ?_;refine wk2 ?_ ?_;all_goals first
  |exact h.n
  |exact Sup.of rfl
def YE:PSp:=λxs K=>match xs with| [p]=>fr1 p λa=>VC a.OK/\K (.int .i64 (fC a.n.val))|_=>False
theorem UW:POK Tryz.prog 117 YE:=Ab (C:=Fr.OK) (r:=λa=>.int .i64 (fC a.n.val)) YD
noncomputable def akf:CPT:=ay 201 (aU zU) noC
theorem aev:aZ Tryz.prog akf:=aj (aF rZ) aC
theorem UY (a:Fr) (h:a.OK) (hL:a.L≤100000000000):aB Tryz.prog 134 [frV a] (frV (can (-a.val))):=by
 rw[<-ael h];have h1:=Fr.nL h;refine au (md:=1) (rf:=[]) mixed ak aev Tryz.func134 qqR qqR qqR ?_;refine wk2 ?_ ?_;all_goals first
  |exact⟨h.n,als h1 (als hL qqD)⟩
  |exact Sup.of rfl
def QX:PSp:=λxs K=>match xs with| [p]=>fr1 p λa=>VC (a.OK/\a.L≤100000000000)/\K (frV (can (-a.val)))|_=>False
theorem Nv:POK Tryz.prog 134 QX:=Ab (C:=λa=>a.OK/\a.L≤100000000000) (r:=λa=>frV (can (-a.val))) λa h=>UY a h.1 h.2
noncomputable def akg:CPT:=ay 194 (aU uP) (ay 201 (aU zU) (ay 178 (aU Ya) (ay 202 (aU ahu) noC)))
theorem yH:aZ Tryz.prog akg:=aj (aF pG) (aj (aF rZ) (aj (aF Ut) (aj (aF ahv) aC)))
theorem UZ (a b:NI) (ha:a.OK) (hb:b.OK) (h0:b.val≠0) (hLa:a.L≤100000000000) (hLb:b.L≤100000000000):aB Tryz.prog 136 [niV a,niV b] (frV (gF a b)):=by
 have ho:=QU hb;have hw:b.w.length=0↔b.w=[]:=amT;have hg0:(aoF a.val.natAbs b.val.natAbs)≠0:=λh=>by have:=(Nat.gcd_eq_zero_iff.1 h).2;omega
 have hg1:((aoF a.val.natAbs b.val.natAbs:Nat):Int)∣a.val:=aoT.2 (aoU _ _);have hg2:((aoF a.val.natAbs b.val.natAbs:Nat):Int)∣b.val:=aoT.2 (ao3 _ _);have hgL:(nr (aoF a.val.natAbs b.val.natAbs)).L≤100000000000:=by
  rw[NI.L_nrm];exact als (fK (Nat.le_of_dvd qqO (ao3 _ _))) hLb
 by_cases hneg:b.val<0
 ·have hsg:fC (NI.val ⟨b.s,b.w⟩)= -1:=by show fC b.val= -1;unfold fC;omega
  have hon:=QU (bQ (-b.val));have hwn:(nrm (-b.val)).w.length=0↔(nrm (-b.val)).w=[]:=amT;rw[bg]at hon;have L1:(nrm (-a.val)).L≤100000000000:=by rw[NI.L_nrm,aoi];exact hLa
  have L2:(nrm (-b.val)).L≤100000000000:=by rw[NI.L_nrm,aoi];exact hLb
  have hL1':=als hLa (show 100000000000≤1000000000000 by decide)
  have hL2':=als hLb (show 100000000000≤1000000000000 by decide)
  have hg1':=ao4.2 hg1;have hg2':=ao4.2 hg2;by_cases h1:b.val= -1
  ·rw[<-aek h1]
   obtain⟨g1,g2⟩:=hon.2 qqO;have g1':=hwn.2 g1;have hb1:nrm 1=nrm (-b.val):=by rw[h1];rfl
   rw[hb1];refine au (md:=1) (rf:=[]) mixed ak yH Tryz.func136 qqR qqR qqR ?_
   repeat'((conv=>whnf);first|(intro hq;(try simp only[vw]at hq);try exact aV hq)|apply aI|exact aD|apply nM|apply fM)
   all_goals((try apply vM);(try simp only[vq]at*);try omega)
   all_goals first
    |exact hb
    |exact⟨ha,hL1'⟩
    |exact⟨hb,hL2'⟩
    |exact Sup.of rfl
    |(exfalso;contradiction)
  ·rw[<-Yx hneg h1]
   have hn1:¬((nrm (-b.val)).w.length=0/\(nrm (-b.val)).s=1):=λh=>h1 (by have:=hon.1 ⟨hwn.1 h.1,h.2⟩;omega)
   refine au (md:=1) (rf:=[]) mixed ak yH Tryz.func136 qqR qqR qqR ?_
   repeat'((conv=>whnf);first|(intro hq;(try simp only[vw]at hq);try exact aV hq)|apply aI|exact aD|apply nM|apply fM)
   all_goals((try apply vM);(try simp only[vq]at*);try omega)
   all_goals(try simp only[dD,bg,aoi])
   all_goals first
    |exact hb
    |exact⟨ha,hL1'⟩
    |exact⟨hb,hL2'⟩
    |exact⟨bQ _,bQ _,L1,L2⟩
    |exact⟨bQ _,bQ _,qqO,hg1',L1,hgL⟩
    |exact⟨bQ _,bQ _,qqO,hg2',L2,hgL⟩
    |(exfalso;exact hn1 ⟨qqA,qqA⟩)
    |exact Sup.of rfl
 ·have hpos:0<b.val:=qqO
  have hsg:fC (NI.val ⟨b.s,b.w⟩)=1:=by show fC b.val=1;unfold fC;omega
  by_cases h1:b.val=1
  ·have e1:=JD hb h1
   have hm:gF a b=⟨a,b⟩:=by unfold gF;rw[if_pos h1]
   rw[hm];obtain⟨g1,g2⟩:=ho.2 h1;have g1':=hw.2 g1;refine au (md:=1) (rf:=[]) mixed ak yH Tryz.func136 qqR qqR qqR ?_;refine wk1 λhq hq hq=>?_;all_goals first
    |exact hb
    |exact Sup.of rfl
    |(exfalso;contradiction)
  ·rw[<-Yw hpos h1]
   have hn1:¬(b.w.length=0/\b.s=1):=λh=>h1 (ho.1 ⟨hw.1 h.1,h.2⟩);refine au (md:=1) (rf:=[]) mixed ak yH Tryz.func136 qqR qqR qqR ?_;refine wk8 (λhq hq hq=>?_) (λhq hq hq=>?_) (λhq hq hq=>?_) (λhq hq hq=>?_) (λhq hq=>?_) (λhq hq=>?_) (λhq hq=>?_) λhq hq=>?_;all_goals(try simp only[dD,bg,aoi])
   all_goals first
    |exact hb
    |exact⟨ha,hb,hLa,hLb⟩
    |exact⟨ha,bQ _,qqO,hg1,hLa,hgL⟩
    |exact⟨hb,bQ _,qqO,hg2,hLb,hgL⟩
    |(exfalso;exact hn1 ⟨qqA,qqA⟩)
    |exact Sup.of rfl
def QY:PSp:=λxs K=>match xs with| [p,q]=>ni1 p λa=>ni1 q λb=>VC (a.OK/\b.OK/\b.val≠0/\a.L≤100000000000/\b.L≤100000000000)/\K (frV (gF a b))|_=>False
theorem Nw:POK Tryz.prog 136 QY:=wU (C:=λa b=>a.OK/\b.OK/\b.val≠0/\a.L≤100000000000/\b.L≤100000000000) (r:=λa b=>frV (gF a b)) λa b h=>UZ a b h.1 h.2.1 h.2.2.1 h.2.2.2.1 h.2.2.2.2
structure FB (a:Fr):Prop where
 ok:a.OK
 le:a.L≤10000000000
theorem FB.nL {a:Fr} (h:FB a):a.n.L≤10000000000:=als (Fr.nL h.ok) h.le
theorem FB.dL {a:Fr} (h:FB a):a.d.L≤10000000000:=als (Fr.dL h.ok) h.le
theorem qD (x y:NI):(nrm (x.val*y.val)).L≤x.L+y.L:=by
 rw[NI.L_nrm,aoV];exact ou _ _
theorem ahA (x y:NI):(addN x y).L≤max x.L y.L+1:=by
 unfold NI.L;rw[uQ];exact Nq _ _
noncomputable def akh:CPT:=ay 116 (aU QW) (ay 109 (aU Ec) (ay 112 (aU xu) (ay 110 (aU uT) (ay 136 (aU QY) noC))))
theorem yI:aZ Tryz.prog akh:=aj (aF JF) (aj (aF wV) (aj (aF uW) (aj (aF pI) (aj (aF Nw) aC))))
theorem U2 (a b:Fr) (ha:FB a) (hb:FB b):aB Tryz.prog 181 [frV a,frV b] (frV (kU a b)):=by
 have n1:=ha.ok.n;have n2:=ha.ok.d;have n3:=hb.ok.n;have n4:=hb.ok.d;have l1:=ha.nL;have l2:=ha.dL;have l3:=hb.nL;have l4:=hb.dL;by_cases h:a.d.val=1/\b.d.val=1
 ·have e:kU a b=⟨addN a.n b.n,gD⟩:=by unfold kU;rw[if_pos h]
  rw[e];obtain⟨h1,h2⟩:=h;have h1':(Fr.d ⟨⟨a.n.s,a.n.w⟩,⟨a.d.s,a.d.w⟩⟩).val=1:=h1;have h2':(Fr.d ⟨⟨b.n.s,b.n.w⟩,⟨b.d.s,b.d.w⟩⟩).val=1:=h2;refine au (md:=1) (rf:=[]) mixed ak yI Tryz.func181 qqR qqR qqR ?_;refine wk4 ?_ (λhq=>?_) (λhq hq=>?_) λhq hq=>?_;all_goals(try simp only[cu,dD])
  all_goals first
   |exact ha.ok
   |exact hb.ok
   |exact⟨n1,n3,qqO,qqO⟩
   |exact Sup.of rfl
   |(exfalso;contradiction)
 ·rw[<-Yy ha.ok hb.ok h]
  have m1:=qD a.n b.d;have m2:=qD b.n a.d;have m3:=qD a.d b.d;have m4:=ahA (nrm (a.n.val*b.d.val)) (nrm (b.n.val*a.d.val));have hd:(nrm (a.d.val*b.d.val)).val≠0:=by
   rw[bg];have:=ao5 ha.ok.pos hb.ok.pos;omega
  refine au (md:=1) (rf:=[]) mixed ak yI Tryz.func181 qqR qqR qqR ?_
  repeat'((conv=>whnf);first|(intro hq;(try simp only[vw]at hq);try exact aV hq)|apply aI|exact aD|apply nM|apply fM)
  all_goals((try apply vM);(try simp only[vq]at*);try omega)
  all_goals(try simp only[cu,dD])
  all_goals(try simp only[cu,dD]at hq)
  all_goals first
   |exact ha.ok
   |exact hb.ok
   |exact⟨n1,n4,qqO,qqO⟩
   |exact⟨n3,n2,qqO,qqO⟩
   |exact⟨n2,n4,qqO,qqO⟩
   |exact⟨bQ _,bQ _,qqO,qqO⟩
   |exact⟨Ea _ _,bQ _,hd,qqO,qqO⟩
   |exact Sup.of rfl
   |(exfalso;simp_all;done)
def QZ:PSp:=λxs K=>match xs with| [p,q]=>fr1 p λa=>fr1 q λb=>VC (FB a/\FB b)/\K (frV (kU a b))|_=>False
theorem Ny:POK Tryz.prog 181 QZ:=JE (C:=λa b=>FB a/\FB b) (r:=λa b=>frV (kU a b)) λa b h=>U2 a b h.1 h.2
theorem U3 (a b:Fr) (ha:FB a) (hb:FB b):aB Tryz.prog 133 [frV a,frV b] (frV (can (a.val*b.val))):=by
 have n1:=ha.ok.n;have n2:=ha.ok.d;have n3:=hb.ok.n;have n4:=hb.ok.d;have l1:=ha.nL;have l2:=ha.dL;have l3:=hb.nL;have l4:=hb.dL;rw[<-Yz ha.ok hb.ok];have m1:=qD a.n b.n;have m3:=qD a.d b.d;have hd:(nrm (a.d.val*b.d.val)).val≠0:=by
  rw[bg];have:=ao5 ha.ok.pos hb.ok.pos;omega
 refine au (md:=1) (rf:=[]) mixed ak yI Tryz.func133 qqR qqR qqR ?_;refine wk4 ?_ ?_ ?_ ?_;all_goals(try simp only[cu,dD])
 all_goals first
  |exact⟨n1,n3,qqO,qqO⟩
  |exact⟨n2,n4,qqO,qqO⟩
  |exact⟨bQ _,bQ _,hd,qqO,qqO⟩
  |exact Sup.of rfl
def CJ:PSp:=λxs K=>match xs with| [p,q]=>fr1 p λa=>fr1 q λb=>VC (FB a/\FB b)/\K (frV (can (a.val*b.val)))|_=>False
theorem yJ:POK Tryz.prog 133 CJ:=JE (C:=λa b=>FB a/\FB b) (r:=λa b=>frV (can (a.val*b.val))) λa b h=>U3 a b h.1 h.2
theorem U4 (a:Fr) (ha:FB a) (h0:a.val≠0):aB Tryz.prog 230 [frV a] (frV (can (a.val⁻¹))):=by
 have n1:=ha.ok.n;have n2:=ha.ok.d;have l1:=ha.nL;have l2:=ha.dL;have hn:a.n.val≠0:=λe=>h0 (by rw[<-Rat.num_eq_zero,Fr.num ha.ok,e])
 rw[<-YA ha.ok h0];refine au (md:=1) (rf:=[]) mixed ak yI Tryz.func230 qqR qqR qqR ?_;refine wk2 ?_ ?_;all_goals(try simp only[cu,dD])
 all_goals first
  |exact⟨n2,n1,hn,qqO,qqO⟩
  |exact Sup.of rfl
def Q5:PSp:=λxs K=>match xs with| [p]=>fr1 p λa=>VC (FB a/\a.val≠0)/\K (frV (can (a.val⁻¹)))|_=>False
theorem Nz:POK Tryz.prog 230 Q5:=Ab (C:=λa=>FB a/\a.val≠0) (r:=λa=>frV (can (a.val⁻¹))) λa h=>U4 a h.1 h.2
theorem JG {q:Rat} (h:RL q≤10000000000):FB (can q):=⟨eY q,by rw[mO];exact h⟩
noncomputable def aki:CPT:=ay 230 (aU Q5) (ay 133 (aU CJ) (ay 134 (aU QX) (ay 181 (aU QZ) noC)))
theorem aew:aZ Tryz.prog aki:=aj (aF Nz) (aj (aF yJ) (aj (aF Nv) (aj (aF Ny) aC)))
theorem U5 (a b:Fr) (ha:FB a) (hb:FB b):aB Tryz.prog 182 [frV a,frV b] (frV (iP a b)):=by
 have hi:FB (can (-b.val)):=JG (by rw[JA];exact hb.le)
 have hbL:b.L≤100000000000:=als hb.le qqD;unfold iP;refine au (md:=1) (rf:=[]) mixed ak aew Tryz.func182 qqR qqR qqR ?_;refine wk3 ?_ ?_ ?_;all_goals first
  |exact⟨hb.ok,hbL⟩
  |exact⟨ha,hi⟩
  |exact Sup.of rfl
def abx:PSp:=λxs K=>match xs with| [p,q]=>fr1 p λa=>fr1 q λb=>VC (FB a/\FB b)/\K (frV (iP a b))|_=>False
theorem aex:POK Tryz.prog 182 abx:=JE (C:=λa b=>FB a/\FB b) (r:=λa b=>frV (iP a b)) λa b h=>U5 a b h.1 h.2
def xw (p q:Rat):Int:=if p<q then-1 else if q<p then 1 else 0
theorem aey {a b:Fr} (ha:a.OK) (hb:b.OK):kT (a.n.val*b.d.val) (b.n.val*a.d.val)=xw a.val b.val:=by
 unfold kT xw;simp only[Rat.lt_iff,Fr.num ha,Fr.num hb,Fr.den ha,Fr.den hb]
noncomputable def akj:CPT:=ay 110 (aU uT) (ay 118 (aU Gw) noC)
theorem aez:aZ Tryz.prog akj:=aj (aF pI) (aj (aF Ed) aC)
theorem U6 (a b:Fr) (ha:FB a) (hb:FB b):aB Tryz.prog 145 [frV a,frV b] (.int .i64 (xw a.val b.val)):=by
 have n1:=ha.ok.n;have n2:=ha.ok.d;have n3:=hb.ok.n;have n4:=hb.ok.d;have l1:=ha.nL;have l2:=ha.dL;have l3:=hb.nL;have l4:=hb.dL;have m1:=qD a.n b.d;have m2:=qD b.n a.d;rw[<-aey ha.ok hb.ok];refine au (md:=1) (rf:=[]) mixed ak aez Tryz.func145 qqR qqR qqR ?_;refine wk4 ?_ ?_ ?_ ?_;all_goals(try simp only[cu,dD,bg])
 all_goals first
  |exact⟨n1,n4,qqO,qqO⟩
  |exact⟨n3,n2,qqO,qqO⟩
  |exact⟨bQ _,bQ _,qqO,qqO⟩
  |exact Sup.of rfl
def aby:PSp:=λxs K=>match xs with| [p,q]=>fr1 p λa=>fr1 q λb=>VC (FB a/\FB b)/\K (.int .i64 (xw a.val b.val))|_=>False
theorem aeA:POK Tryz.prog 145 aby:=JE (C:=λa b=>FB a/\FB b) (r:=λa b=>.int .i64 (xw a.val b.val)) λa b h=>U6 a b h.1 h.2
theorem U7 {p q:Rat}:xw p q=0↔p=q:=by
 unfold xw;constructor
 ·intro h
  split at h
  ·omega
  ·split at h
   ·omega
   ·rename_i h1 h2
    exact Rat.le_antisymm (Rat.not_lt.1 h2) (Rat.not_lt.1 h1)
 ·rintro rfl
  rw[if_neg (Rat.not_lt.2 Rat.le_refl),if_neg (Rat.not_lt.2 Rat.le_refl)]
noncomputable def akk:CPT:=ay 145 (aU aby) noC
theorem aeB:aZ Tryz.prog akk:=aj (aF aeA) aC
theorem U8 (a b:Fr) (ha:FB a) (hb:FB b):aB Tryz.prog 174 [frV a,frV b] (.bp (decide (a.val=b.val))):=by
 have e:decide (a.val=b.val)=decide (xw a.val b.val=0):=by rw[decide_eq_decide];exact U7.symm
 rw[e];refine au (md:=1) (rf:=[]) mixed ak aeB Tryz.func174 qqR qqR qqR ?_;refine wk2 ?_ ?_;all_goals first
  |exact⟨ha,hb⟩
  |exact Sup.of rfl
def abz:PSp:=λxs K=>match xs with| [p,q]=>fr1 p λa=>fr1 q λb=>VC (FB a/\FB b)/\K (.bp (decide (a.val=b.val)))|_=>False
theorem aeC:POK Tryz.prog 174 abz:=JE (C:=λa b=>FB a/\FB b) (r:=λa b=>.bp (decide (a.val=b.val))) λa b h=>U8 a b h.1 h.2
def lgQ (q:Rat):Bool:=lgI q.num||lgI q.den
structure FT (a:Fr):Prop where
 ok:a.OK
 le:a.L≤500000000
noncomputable def akl:CPT:=ay 234 (aU abw) (ay 235 (aU QS) (ay 116 (aU QW) noC))
theorem Em:aZ Tryz.prog akl:=aj (aF aeo) (aj (aF Nn) (aj (aF JF) aC))
theorem Q6 (a:Fr) (ha:FT a):aB Tryz.prog 192 [frV a] (.bp (lgQ a.val)):=by
 have n1:=ha.ok.n;have n2:=ha.ok.d;have l1:=als (Fr.nL ha.ok) ha.le;have l2:=als (Fr.dL ha.ok) ha.le;unfold lgQ;rw[Fr.num ha.ok,Fr.den ha.ok];refine au (md:=1) (rf:=[]) mixed ak Em Tryz.func192 qqR qqR qqR ?_;refine wk4 ?_ (λhq=>?_) (λhq=>?_) λhq=>?_;all_goals(try simp only[cu,dD])
 all_goals(try simp only[cu,dD]at hq)
 all_goals first
  |exact⟨n1,l1⟩
  |exact⟨n2,l2⟩
  |(rw[hq,Bool.false_or];exact Sup.of rfl)
  |(rw[hq,Bool.true_or];exact YB rfl)
def JH:PSp:=λxs K=>match xs with| [p]=>fr1 p λa=>VC (FT a)/\K (.bp (lgQ a.val))|_=>False
theorem JI:POK Tryz.prog 192 JH:=Ab (C:=FT) (r:=λa=>.bp (lgQ a.val)) Q6
theorem pQ (n:Nat):itB (n:Int)=bF n:=by
 rw[gX];unfold sgB;rw[if_neg qqO,ByteArray.empty_append,aoW]
theorem U9 (a:Fr) (ha:FT a):aB Tryz.prog 193 [frV a] (.str (txQ a.val)):=by
 have n1:=ha.ok.n;have n2:=ha.ok.d;have l1:=als (Fr.nL ha.ok) ha.le;have l2:=als (Fr.dL ha.ok) ha.le;have hdn:=Fr.den ha.ok;unfold txQ;have z1:(itB a.n.val).size≤11000000000:=by
  have:=El a.n.val.natAbs;have l1':Lw a.n.val.natAbs≤500000000:=l1;rw[gX,ByteArray.size_append];unfold sgB;split
  ·have:(kMi:ByteArray).size=1:=rfl
   omega
  ·have:(ByteArray.empty).size=0:=rfl
   omega
 have z2:(itB a.d.val).size≤11000000000:=by
  have:=El a.d.val.natAbs;have l1':Lw a.d.val.natAbs≤500000000:=l2;rw[gX,ByteArray.size_append];unfold sgB;split
  ·have:(kMi:ByteArray).size=1:=rfl
   omega
  ·have:(ByteArray.empty).size=0:=rfl
   omega
 have z3:(kSl:ByteArray).size=1:=rfl;rw[Fr.num ha.ok];by_cases h:a.val.den=1
 ·rw[if_pos h]
  have h':(Fr.d ⟨⟨a.n.s,a.n.w⟩,⟨a.d.s,a.d.w⟩⟩).val=1:=by show a.d.val=1;omega
  refine au (md:=1) (rf:=[]) mixed ak Em Tryz.func193 qqR qqR qqR ?_;refine wk3 ?_ (λhq=>?_) λhq=>?_;all_goals first
   |exact ha.ok
   |exact⟨n1,l1⟩
   |exact Sup.of rfl
   |(exfalso;contradiction)
 ·rw[if_neg h,<-pQ,hdn]
  have h':¬(Fr.d ⟨⟨a.n.s,a.n.w⟩,⟨a.d.s,a.d.w⟩⟩).val=1:=by show¬a.d.val=1;omega
  refine au (md:=1) (rf:=[]) mixed ak Em Tryz.func193 qqR qqR qqR ?_;refine wk6 ?_ (λhq=>?_) (λhq=>?_) (λhq=>?_) (λhq=>?_) λhq=>?_;all_goals(try simp only[cu,dD])
  all_goals first
   |exact ha.ok
   |exact⟨n1,l1⟩
   |exact⟨n2,l2⟩
   |(rw[z3];omega)
   |(rw[ByteArray.size_append,z3];omega)
   |exact Sup.of rfl
   |(exfalso;contradiction)
def Q7:PSp:=λxs K=>match xs with| [p]=>fr1 p λa=>VC (FT a)/\K (.str (txQ a.val))|_=>False
theorem NA:POK Tryz.prog 193 Q7:=Ab (C:=FT) (r:=λa=>.str (txQ a.val)) U9
end Go.Eng.YtmkagljofpddpaaGreatDoor
namespace Go.Eng.YtmkagljofpddpaaGreatDoor
open Go.Eng.ElG
set_option linter.unusedSimpArgs false
set_option linter.unusedVariables false
def Ff:Fld Fr:=⟨λa=>decide (a.val=0),iP,λa b=>can (a.val*b.val),λa=>can (a.val⁻¹)⟩
def Fq:Fld Rat:=⟨λa=>decide (a=0),λa b=>a-b,λa b=>a*b,λa=>a⁻¹⟩
def Bd (b:Nat):Nat->Nat
 |0=>b
 |k+1=>4*Bd b k+1
theorem lY (b:Nat) {i:Nat}:∀{j:Nat},i≤j->Bd b i≤Bd b j:=by
 intro j;induction j with
 |zero=>intro h;rw[Nat.le_zero.1 h];exact alo _
 |succ j ih=>
  intro h;by_cases e:i=j+1
  ·subst e;exact alo _
  ·have:=ih qqO
   rw[Bd];omega
structure GL (b k:Nat) (x:Fr):Prop where
 ok:x.OK
 le:x.L≤Bd b k
theorem GL.fb {b k:Nat} {x:Fr} (h:GL b k x) (hb:Bd b k≤10000000000):FB x:=⟨h.ok,als h.le hb⟩
theorem qY (a c:Fr):(can (a.val*c.val)).L≤a.L+c.L:=by rw[mO];exact ahx _ _
theorem Q8 (a:Fr):(can (a.val⁻¹)).L≤a.L:=by rw[mO];exact ahz _
theorem abA {a c:Fr} (ha:a.OK) (hc:c.OK):(iP a c).L≤a.L+c.L+1:=by
 unfold Fr.L;rw[Aa ha hc];exact ahy _ _
theorem yK (b:Nat):Hom Ff Fq Fr.val (GL b)where
 up:=λc x h=>⟨h.ok,als h.le (lY b (Nat.le_succ c))⟩
 z:=λc x h=>rfl
 scale:=λc a s ha hs h0=>by
  have h1:=qY a (can (s.val⁻¹));have h2:=Q8 s;have h3:=ha.le;have h4:=hs.le;refine⟨?_,⟨eY _,?_⟩⟩
  ·show(can (a.val*(can (s.val⁻¹)).val)).val=a.val*s.val⁻¹
   rw[d9,d9]
  ·show(can (a.val*(can (s.val⁻¹)).val)).L≤4*Bd b c+1
   omega
 clear:=λc a t x s ha ht hx hs h0=>by
  have h1:=qY x (can (s.val⁻¹));have h2:=Q8 s;have h3:=ha.le;have h4:=hs.le;have h5:=hx.le;have h6:=ht.le;have h7:=qY t (can (x.val*(can (s.val⁻¹)).val));have h8:=abA ha.ok (eY (t.val*(can (x.val*(can (s.val⁻¹)).val)).val));refine⟨?_,⟨Nt ha.ok (eY _),?_⟩⟩
  ·show(iP a (can (t.val*(can (x.val*(can (s.val⁻¹)).val)).val))).val=a.val-t.val*(can (x.val*(can (s.val⁻¹)).val)).val
   rw[Aa ha.ok (eY _),d9]
  ·show(iP a (can (t.val*(can (x.val*(can (s.val⁻¹)).val)).val))).L≤4*Bd b c+1
   omega
end Go.Eng.YtmkagljofpddpaaGreatDoor
namespace Go.Eng.YtmkagljofpddpaaGreatDoor
open Go.Proofs Go.Eng.Dig
set_option linter.unusedSimpArgs false
set_option linter.unusedVariables false
set_option maxHeartbeats 0
set_option maxRecDepth 100000
abbrev B9:Nat:=1000000000
theorem B92:2≤B9:=qqD
abbrev zd9 (x:Nat):CL:=.ints .i64 (dl B9 x)
abbrev v9 (l:List Int):Nat:=vl B9 l
abbrev D9 (l:List Int):Prop:=Dg B9 l
theorem dR (x:Nat):v9 (dl B9 x)=x:=uK B92 x
theorem dK (x:Nat):D9 (dl B9 x):=abq B92 x
theorem nV (x i:Nat):0≤(dl B9 x).getD i 0/\(dl B9 x).getD i 0<1000000000:=by
 rw[bG B92];have:=al8 (x / B9 ^ i) (by decide:B9>0)
 unfold B9 at*;omega
theorem Ra (l:List Int) (hl:l.length≤1000000000000):aB Tryz.prog 241 [.isl (.ints .i64 l) .none] (.isl (.ints .i64 (trm l)) .none):=by
 have t0:∀k,k<l.length->l.getD k 0=0->trm (l.take (k+1))=trm (l.take k):=λk h h0=>zQ h h0;have t1:∀k,k<l.length->l.getD k 0≠0->trm (l.take (k+1))=l.take (k+1):=λk h h0=>zR h h0;have t2:trm (l.take 0)=l.take 0:=rfl;have t3:trm l=trm (l.take l.length):=by rw[anH]
 have t4:l=l.take l.length:=by rw[anH]
 rw[t3];generalize trm=T at*
 refine au (md:=1) (rf:=[]) mixed ak aC Tryz.func241 qqR qqR qqR ?_;refine wk1 ?_;conv=>whnf
 refine aR (X:=Nat) (λk=>k≤l.length/\T (l.take l.length)=T (l.take k)) (λk=>[(0,.isl (.ints .i64 (l.take k)) .none)]) (λk=>[]) (λk=>k) l.length ⟨aH,mixed,ak,aC,aN⟩ qqR ⟨qqO,rfl⟩ ?_ ?_
 ·refine wk1 ?_
  all_goals first|exact congrArg (CL.ints .i64) t4
 intro k ⟨hk,hT⟩;rw[hT];have hlk:(l.take k).length=k:=by rw[amh];omega
 cases k with
 |zero=>
  refine wk1 λhq=>?_;all_goals first
   |(rw[t2];exact Sup.of rfl)
   |(exfalso;rw[aoS]at*;simp at*;done)
 |succ k=>
  have e:(((l.take (k+1)).length:Int)-1).toNat=k:=qqO;have eg:(l.take (k+1)).getD k 0=l.getD k 0:=by
   rw[alC,alC,List.getElem?_take,if_pos qqO]
  have ett:((l.take (k+1)).drop 0).take (k-0)=l.take k:=by
   rw[aoR,ao6,ao7,amd qqO]
  refine wk2 (λhq hq=>?_) λhq hq=>?_;all_goals(try simp only[e,eg,ett]at*)
  all_goals first
   |omega
   |(refine⟨k,[],⟨⟨qqO,t0 k qqO hq⟩,qqO⟩,?_⟩
     refine wk1 ?_;all_goals(simp only[CL.sub,aoR,ao6,ao7];rw[amd qqO]))
   |(rw[t1 k qqO hq];exact Sup.of rfl)
def sG:PSp:=λxs K=>match xs with
 | [.isl (.ints .i64 l) .none]=>VC (l.length≤1000000000000)/\K (.isl (.ints .i64 (trm l)) .none)
 |_=>False
theorem uX:POK Tryz.prog 241 sG:=by
 intro xs K h;unfold sG at h;split at h
 ·exact⟨_,h.2,Ra _ h.1.get⟩
 ·exact h.elim
theorem Va (x y:Nat) (hx:(dl B9 x).length≤1000000000000) (hy:(dl B9 y).length≤1000000000000):aB Tryz.prog 207 [.isl (zd9 x) .none,.isl (zd9 y) .none] (.int .i64 (dU x y)):=by
 have g1:=bG B92 x;have g2:=bG B92 y;have c1:(dl B9 x).length<(dl B9 y).length->dU x y= -1:=λh=>by have:=yh B92 h;unfold dU;rw[if_pos this]
 have c2:(dl B9 y).length<(dl B9 x).length->dU x y=1:=λh=>by have:=yh B92 h;unfold dU;rw[if_neg qqO,if_pos this]
 have c3:∀i,x / B9 ^ (i+1)=y / B9 ^ (i+1)->(dl B9 x).getD i 0<(dl B9 y).getD i 0->dU x y= -1:=λi h hd=>by
  rw[g1,g2]at hd;have:=Cj B92 h qqO;unfold dU;rw[if_pos this]
 have c4:∀i,x / B9 ^ (i+1)=y / B9 ^ (i+1)->(dl B9 y).getD i 0<(dl B9 x).getD i 0->dU x y=1:=λi h hd=>by
  rw[g1,g2]at hd;have:=Cj B92 h.symm qqO;unfold dU;rw[if_neg qqO,if_pos this]
 have c5:∀i,x / B9 ^ (i+1)=y / B9 ^ (i+1)->(dl B9 x).getD i 0=(dl B9 y).getD i 0->x / B9 ^ i=y / B9 ^ i:=λi h hd=>by
  rw[g1,g2]at hd;exact cmp_eq h qqO
 have c6:x / B9 ^ 0=y / B9 ^ 0->dU x y=0:=λh=>by
  simp at h;unfold dU;rw[if_neg qqO,if_neg qqO]
 have c7:(dl B9 x).length=(dl B9 y).length->x / B9 ^ (dl B9 x).length=y / B9 ^ (dl B9 x).length:=λh=>by
  rw[alR (bU B92 x),alR (by rw[h];exact bU B92 y)]
 unfold zd9;generalize dl B9 x=l at*
 generalize dl B9 y=m at*
 generalize dU x y=r at*
 refine au (md:=1) (rf:=[]) mixed ak aC Tryz.func207 qqR qqR qqR ?_;refine wk3 (λhq hq=>?_) (λhq hq=>?_) λhq=>?_;all_goals(try(first|(rw[c1 qqO];exact Sup.of rfl)|(rw[c2 qqO];exact Sup.of rfl)))
 conv=>whnf
 refine aR (X:=Nat) (λk=>k≤l.length/\x / B9 ^ k=y / B9 ^ k) (λk=>[(5,.int .i64 ((k:Int)-1))]) (λk=>[]) (λk=>k) l.length ⟨aH,mixed,ak,aC,aN⟩ qqR ⟨qqO,c7 qqO⟩ ?_ ?_
 ·exact wk0
  all_goals skip
 intro k ⟨hk,hT⟩;cases k with
 |zero=>
  rw[c6 hT];refine wk1 λhq=>?_;all_goals exact Sup.of rfl
 |succ k=>
  rw[show((k+1:Nat):Int)-1=(k:Int) by omega]
  refine wk3 (λhq hq=>?_) (λhq hq hq=>?_) λhq hq hq=>?_;all_goals first
   |(rw[c3 k hT qqA];exact Sup.of rfl)
   |(rw[c4 k hT qqO];exact Sup.of rfl)
   |(refine⟨k,[],⟨⟨qqO,c5 k hT qqO⟩,qqO⟩,?_⟩
     repeat'((conv=>whnf);first|intro _|apply aI|exact aD|apply nM|apply fM)
     all_goals((try apply vM);(try simp only[vq]at*);try omega))
   |omega
def GA:PSp:=λxs K=>match xs with
 | [.isl (.ints .i64 l) .none,.isl (.ints .i64 m) .none]=>VC (D9 l/\D9 m/\l.length≤1000000000000/\m.length≤1000000000000)/\K (.int .i64 (dU (v9 l) (v9 m)))
 |_=>False
theorem NC:POK Tryz.prog 207 GA:=by
 intro xs K hk;unfold GA at hk;split at hk
 ·obtain⟨h1,h2,h3,h4⟩:=hk.1.get
  rename_i l m;obtain⟨x,rfl⟩:=fq h1;obtain⟨y,rfl⟩:=fq h2;refine⟨_,hk.2,?_⟩;rw[dR,dR];exact Va x y h3 h4
 ·exact hk.elim
theorem LH (l:List Int) (i:Int) (h:0≤i/\i≤9223372036854775807/\l.length≤1000000000000):aB Tryz.prog 243 [.isl (.ints .i64 l) .none,.int .i64 i] (.int .i64 (l.getD i.toNat 0)):=by
 obtain⟨h1,h2,h3⟩:=h;have h0:(l.length:Int)≤i->l.getD i.toNat 0=0:=λh=>by
  rw[alC,List.getElem?_eq_none qqO];rfl
 refine au (md:=1) (rf:=[]) mixed ak aC Tryz.func243 qqR qqR qqR ?_;refine wk2 (λhq=>?_) λhq=>?_;all_goals first
  |omega
  |exact Sup.of rfl
  |(rw[h0 qqO];exact Sup.of rfl)
def En:PSp:=λxs K=>match xs with
 | [.isl (.ints .i64 l) .none,.int .i64 i]=>VC (0≤i/\i≤9223372036854775807/\l.length≤1000000000000)/\K (.int .i64 (l.getD i.toNat 0))
 |_=>False
theorem Vb:POK Tryz.prog 243 En:=by
 intro xs K h;unfold En at h;split at h
 ·exact⟨_,h.2,LH _ _ h.1.get⟩
 ·exact h.elim
noncomputable def akm:CPT:=ay 243 (aJ En) (ay 241 (nS sG) noC)
theorem yL:aZ Tryz.prog akm:=aj (aA Vb) (aj (kC uX) aC)
theorem tdv {n:Int} (h:0≤n) (d:Int):n.tdiv d=n / d:=ao8 h
theorem tmd {n:Int} (h:0≤n) (d:Int):n.tmod d=n % d:=ao9 h
theorem CO {B n x:Nat} {d:Int} (hd:d=((x / B ^ n % B:Nat):Int)):dn B n x++[d]=dn B (n+1) x:=by
 unfold dn;rw[aoQ,aoL,hd];rfl
theorem ai9 (x y i:Nat):((dl B9 x).getD i 0+(dl B9 y).getD i 0+(ca B9 x y i:Nat)) % 1000000000=(((x+y) / B9 ^ i % B9:Nat):Int)/\((dl B9 x).getD i 0+(dl B9 y).getD i 0+(ca B9 x y i:Nat)) / 1000000000=(ca B9 x y (i+1):Nat):=by
 rw[bG B92,bG B92,<-wP B92,<-rT B92];generalize x / B9 ^ i % B9=a
 generalize y / B9 ^ i % B9=b
 generalize ca B9 x y i=c
 unfold B9;omega
theorem YF {x y i:Nat} (h1:(dl B9 x).length≤i) (h2:(dl B9 y).length≤i) (hc:ca B9 x y i=0) (hp:∀j,j<i->j<(dl B9 x).length∨j<(dl B9 y).length∨ca B9 x y j≠0):dn B9 i (x+y)=dl B9 (x+y):=by
 have hx:x<B9 ^ i:=alp (bU B92 x) (anL qqD h1);have hy:y<B9 ^ i:=alp (bU B92 y) (anL qqD h2);rw[Ja hx hy]at hc;have hlt:x+y<B9 ^ i:=(aob (pw B92 i)).1 hc;have hlen:(dl B9 (x+y)).length=i:=by
  have hle:=fG B92 hlt;refine apa hle ?_;cases i with
  |zero=>exact aml _
  |succ j=>
   refine lQ B92 (k:=j) ?_;rcases hp j qqO with h|h|h
   ·obtain⟨m,hm⟩:∃m,(dl B9 x).length=m+1:=⟨(dl B9 x).length-1,qqO⟩
    have:=jI B92 x m hm;have:B9 ^ j≤B9 ^ m:=anL qqD qqO;omega
   ·obtain⟨m,hm⟩:∃m,(dl B9 y).length=m+1:=⟨(dl B9 y).length-1,qqO⟩
    have:=jI B92 y m hm;have:B9 ^ j≤B9 ^ m:=anL qqD qqO;omega
   ·have h0:=nT B92 x y j
    have:ca B9 x y j=1:=qqO;unfold ca at this;have h3:=aoE x (B9 ^ j);have h4:=aoE y (B9 ^ j);have h5:1*B9 ^ j≤x % B9 ^ j+y % B9 ^ j:=(al9 (pw B92 j)).1 qqO;omega
 have:=Gu B92 (x+y);rw[hlen]at this;exact this.symm
theorem Vd (x y:Nat) (hx:(dl B9 x).length≤500000000) (hy:(dl B9 y).length≤500000000):aB Tryz.prog 206 [.isl (zd9 x) .none,.isl (zd9 y) .none] (.isl (zd9 (x+y)) .none):=by
 refine au (md:=1) (rf:=[]) mixed ak yL Tryz.func206 qqR qqR qqR ?_;refine wk1 ?_;conv=>whnf
 refine aR (X:=Nat) (λi=>i≤max (dl B9 x).length (dl B9 y).length+1/\(∀j,j<i->j<(dl B9 x).length∨j<(dl B9 y).length∨ca B9 x y j≠0)) (λi=>[(7,.int .i64 i),(6,.int .i64 (ca B9 x y i:Nat)),(5,.isl (.ints .i64 (dn B9 i (x+y))) (.own 3)),(8,.any)]) (λi=>[(3,.tok 1 i)]) (λi=>max (dl B9 x).length (dl B9 y).length+1-i) 0 ⟨aH,mixed,ak,yL,aN⟩ qqR ⟨qqO,λj hj=>absurd hj qqO⟩ ?_ ?_
 ·refine wk1 ?_
  all_goals(rw[rR];rfl)
 intro i ⟨hi,hp⟩;have hc:=nT B92 x y i;have hr1:=nV x i;have hr2:=nV y i;obtain⟨hA,hB⟩:=ai9 x y i;rw[<-tmd qqO]at hA;rw[<-tdv qqO]at hB;have hc':=nT B92 x y (i+1);have hm:=dw B9 i (x+y);have hm':=dw B9 (i+1) (x+y);have hlast:i=max (dl B9 x).length (dl B9 y).length+1->ca B9 x y i=0:=λh=>by
  have g1:∀z:Nat,(dl B9 z).length<i->z / B9 ^ (i-1) % B9=0:=λz hz=>by
   rw[alR (alp (bU B92 z) (anL qqD qqO))];rfl
  have g2:=rT B92 x y (i-1);have g3:=nT B92 x y (i-1);rw[g1 x qqO,g1 y qqO,show i-1+1=i by omega]at g2
  rw[<-g2];exact alR (an4 (show 0+0+ca B9 x y (i-1)≤1 by omega) qqD)
 have hsn:=CO (B:=B9) (n:=i) (x:=x+y) rfl;by_cases e:i<(dl B9 x).length∨i<(dl B9 y).length∨ca B9 x y i≠0
 ·have hi2:i≤max (dl B9 x).length (dl B9 y).length:=Nat.le_of_lt_succ (apb hi (λh=>by
   have:=hlast h;omega))
  refine wk6 (λhq hq hq=>?_) (λhq hq hq=>?_) (λhq hq=>?_) (λhq hq=>?_) (λhq=>?_) λhq=>?_;all_goals(try rw[hA])
  all_goals(try rw[hB])
  all_goals first
   |omega
   |(rw[hsn,hm'];omega)
   |(rw[hsn]
     refine⟨i+1,[],⟨⟨qqO,λj hj=>?_⟩,qqO⟩,?_⟩
     ·rcases alq j i with h|h
      ·exact hp j h
      ·rw[show j=i by omega];exact e
     rw[show((i+1:Nat):Int)=(i:Int)+1 by omega]
     exact wk0;all_goals skip)
 ·have hfin:=YF (x:=x) (y:=y) (i:=i) qqO qqO qqO hp
  refine wk1 λhq hq hq=>?_;all_goals first
   |omega
   |(rw[hfin];exact Sup.of rfl)
def Rb:PSp:=λxs K=>match xs with
 | [.isl (.ints .i64 l) .none,.isl (.ints .i64 m) .none]=>VC (D9 l/\D9 m/\l.length≤500000000/\m.length≤500000000)/\K (.isl (zd9 (v9 l+v9 m)) .none)
 |_=>False
theorem aeD:POK Tryz.prog 206 Rb:=by
 intro xs K hk;unfold Rb at hk;split at hk
 ·obtain⟨h1,h2,h3,h4⟩:=hk.1.get
  rename_i l m;obtain⟨x,rfl⟩:=fq h1;obtain⟨y,rfl⟩:=fq h2;refine⟨_,hk.2,?_⟩;rw[dR,dR];exact Vd x y h3 h4
 ·exact hk.elim
theorem aja {x y:Nat} (h:y≤x) (i:Nat):(if(dl B9 x).getD i 0-(dl B9 y).getD i 0-(bo B9 x y i:Nat)<0 then(dl B9 x).getD i 0-(dl B9 y).getD i 0-(bo B9 x y i:Nat)+1000000000 else(dl B9 x).getD i 0-(dl B9 y).getD i 0-(bo B9 x y i:Nat))=(((x-y) / B9 ^ i % B9:Nat):Int)/\(if(dl B9 x).getD i 0-(dl B9 y).getD i 0-(bo B9 x y i:Nat)<0 then(1:Int)else 0)=(bo B9 x y (i+1):Nat):=by
 have hb:=Ck B9 x y i;rw[bG B92,bG B92,<-Jb B92 h,yj B92];have h1:=al8 (x / B9 ^ i) (by decide:B9>0)
 have h2:=al8 (y / B9 ^ i) (by decide:B9>0)
 generalize x / B9 ^ i % B9=a at*
 generalize y / B9 ^ i % B9=b at*
 generalize bo B9 x y i=c at*
 unfold B9 at*;constructor
 ·split<;>omega
 ·split<;>split<;>omega
theorem Ve (x y:Nat) (hx:(dl B9 x).length≤500000000) (h:y≤x):aB Tryz.prog 208 [.isl (zd9 x) .none,.isl (zd9 y) .none] (.isl (zd9 (x-y)) .none):=by
 have hyx:(dl B9 y).length≤(dl B9 x).length:=fG B92 (an4 h (bU B92 x));have hend:trm (dn B9 (dl B9 x).length (x-y))=dl B9 (x-y):=by
  rw[jk B92];have:=bU B92 x;omega
 refine au (md:=1) (rf:=[]) mixed ak yL Tryz.func208 qqR qqR qqR ?_;refine wk1 ?_;conv=>whnf
 refine aR (X:=Nat) (λi=>i≤(dl B9 x).length) (λi=>[(7,.int .i64 i),(6,.int .i64 (bo B9 x y i:Nat)),(5,.isl (.ints .i64 (dn B9 i (x-y))) (.own 3)),(8,.any)]) (λi=>[(3,.tok 1 i)]) (λi=>(dl B9 x).length-i) 0 ⟨aH,mixed,ak,yL,aN⟩ qqR qqO ?_ ?_
 ·refine wk1 ?_
  all_goals(rw[DR];rfl)
 intro i hi;have hc:=Ck B9 x y i;have hr1:=nV x i;have hr2:=nV y i;obtain⟨hA,hB⟩:=aja h i;have hm:=dw B9 i (x-y);have hm':=dw B9 (i+1) (x-y);have hsn:=CO (B:=B9) (n:=i) (x:=x-y) rfl;by_cases e:i=(dl B9 x).length
 ·subst e
  refine wk1 λhq=>?_;all_goals first
   |omega
   |(rw[hend];exact Sup.of rfl)
 ·by_cases hneg:(dl B9 x).getD i 0-(dl B9 y).getD i 0-(bo B9 x y i:Nat)<0
  all_goals
   first|rw[if_pos hneg,if_pos hneg]at* |skip
   first|rw[if_pos hneg]at hA hB|rw[if_neg hneg]at hA hB
   refine wk2 (λhq hq=>?_) λhq hq=>?_;all_goals(try rw[hA])
   all_goals first
    |omega
    |(rw[hsn,hm'];omega)
    |(rw[hsn]
      refine⟨i+1,[],⟨qqO,qqO⟩,?_⟩;rw[show((i+1:Nat):Int)=(i:Int)+1 by omega]
      exact wk0;all_goals first|exact hB)
def Rf:PSp:=λxs K=>match xs with
 | [.isl (.ints .i64 l) .none,.isl (.ints .i64 m) .none]=>VC (D9 l/\D9 m/\l.length≤500000000/\v9 m≤v9 l)/\K (.isl (zd9 (v9 l-v9 m)) .none)
 |_=>False
theorem aeE:POK Tryz.prog 208 Rf:=by
 intro xs K hk;unfold Rf at hk;split at hk
 ·obtain⟨h1,h2,h3,h4⟩:=hk.1.get
  rename_i l m;obtain⟨x,rfl⟩:=fq h1;obtain⟨y,rfl⟩:=fq h2;refine⟨_,hk.2,?_⟩;rw[dR,dR]at*;exact Ve x y h3 h4
 ·exact hk.elim
noncomputable def akn:CPT:=ay 241 (nS sG) noC
theorem sH:aZ Tryz.prog akn:=aj (kC uX) aC
theorem YG {n x y i j:Nat} (h:i+j<n) {d:Int} (hd:d=((tj B9 x y i (j+1) / B9 ^ (i+j) % B9:Nat):Int)):(dm B9 n (i+j) (tj B9 x y i j) (x % B9 ^ i*y)).set (i+j) d=dm B9 n (i+(j+1)) (tj B9 x y i (j+1)) (x % B9 ^ i*y):=by
 rw[uJ (x':=tj B9 x y i (j+1)) (z':=x % B9 ^ i*y) (λk hk _=>(TS B92 x y i j k hk).symm) (λ_ _ _=>rfl),mI h hd];rfl
theorem JJ (n i x:Nat):dm B9 n i x x=dn B9 n x:=by
 unfold dm dn;refine List.map_congr_left λk hk=>?_;split<;>rfl
theorem aeF {n x y i m:Nat} (hy:y<B9 ^ m) (h:i+m<n):(dm B9 n (i+m) (tj B9 x y i m) (x % B9 ^ i*y)).set (i+m) (cm B9 x y i m:Nat)=dn B9 n (x % B9 ^ (i+1)*y):=by
 have hl:=Cm B92 x y i m;have e:=MN B92 x i hy;have o1:=rU B92 x i hy;have hT:x % B9 ^ (i+1)*y<B9 ^ (i+m+1):=by
  have:=rU B92 x (i+1) hy;rw[show i+1+m=i+m+1 by omega]at this
  exact(aob (pw B92 _)).1 this
 have hd:((cm B9 x y i m:Nat):Int)=((x % B9 ^ (i+1)*y / B9 ^ (i+m) % B9:Nat):Int):=by
  rw[e]at hl⊢;rw[alT hl]
 rw[Jc x i hy,mI h hd];rw[<-JJ n (i+m+1)];refine uJ (λ_ _ _=>rfl) λk hk _=>?_;have g1:x % B9 ^ i*y<B9 ^ (i+m):=(aob (pw B92 _)).1 o1;have g2:B9 ^ (i+m)≤B9 ^ k:=anL qqD qqO;have g3:B9 ^ (i+m+1)≤B9 ^ k:=anL qqD hk;rw[alR qqO,alR qqO]
theorem ajb (x y i j n:Nat) (h:i+j<n):∃P O:Int,(dl B9 x).getD i 0*(dl B9 y).getD j 0=P/\(dm B9 n (i+j) (tj B9 x y i j) (x % B9 ^ i*y)).getD (i+j) 0=O/\0≤P/\P≤999999998000000001/\0≤O/\O<1000000000/\
 (O+P+(cm B9 x y i j:Nat)).tdiv 1000000000=(cm B9 x y i (j+1):Nat)/\
 (O+P+(cm B9 x y i j:Nat)).tmod 1000000000=((tj B9 x y i (j+1) / B9 ^ (i+j) % B9:Nat):Int):=by
 refine⟨((x / B9 ^ i % B9*(y / B9 ^ j % B9):Nat):Int),((x % B9 ^ i*y / B9 ^ (i+j) % B9:Nat):Int),?_,?_,?_⟩
 ·rw[bG B92,bG B92,an9]
 ·rw[lS _ _ _ _ _ _ h,if_neg qqO]
 ·rw[tdv qqO,tmd qqO,<-DV B92,<-TR B92]
  have h1:=al8 (x / B9 ^ i) (by decide:B9>0)
  have h2:=al8 (y / B9 ^ j) (by decide:B9>0)
  have h3:=al8 (x % B9 ^ i*y / B9 ^ (i+j)) (by decide:B9>0)
  have h4:=amy (show x / B9 ^ i % B9≤999999999 by unfold B9 at*;omega) (show y / B9 ^ j % B9≤999999999 by unfold B9 at*;omega)
  generalize x / B9 ^ i % B9*(y / B9 ^ j % B9)=a at*
  generalize x % B9 ^ i*y / B9 ^ (i+j) % B9=b at*
  generalize cm B9 x y i j=c at*
  unfold B9 at*;refine⟨qqO,qqO,qqO,qqO,qqO,qqO⟩
theorem Vf (x y:Nat) (hx:(dl B9 x).length≤400000000000) (hy:(dl B9 y).length≤400000000000):aB Tryz.prog 209 [.isl (zd9 x) .none,.isl (zd9 y) .none] (.isl (zd9 (x*y)) .none):=by
 have hly:=bU B92 y;have hend:trm (dn B9 ((dl B9 x).length+(dl B9 y).length) (x % B9 ^ (dl B9 x).length*y))=dl B9 (x*y):=by
  rw[alT (bU B92 x),jk B92];rw[anI];exact aoc (bU B92 x) hly
 refine au (md:=1) (rf:=[]) mixed ak sH Tryz.func209 qqR qqR qqR ?_;refine wk2 ?_ ?_
 ·exact .inl trivial
 conv=>whnf
 refine aR (X:=Nat) (λi=>i≤(dl B9 x).length) (λi=>[(6,.int .i64 i),(7,.any),(8,.any),(9,.any)]) (λi=>[(0,.cells (.ints .i64 (dn B9 ((dl B9 x).length+(dl B9 y).length) (x % B9 ^ i*y))) false)]) (λi=>(dl B9 x).length-i) 0 ⟨aH,mixed,ak,sH,aN⟩ qqR qqO ?_ ?_
 ·refine wk1 ?_
  all_goals(rw[show x % B9 ^ 0*y=0 by rw[aod,amc,amo],kL,show(((dl B9 x).length:Int)+((dl B9 y).length:Int)).toNat=(dl B9 x).length+(dl B9 y).length by omega])
 intro i hi;have hm0:=dw B9 ((dl B9 x).length+(dl B9 y).length) (x % B9 ^ i*y);by_cases e:i=(dl B9 x).length
 ·subst e
  refine wk2 (λhq=>?_) λhq=>?_
  ·rw[fV _ _ qqO];omega
  ·rw[fV _ _ qqO,hend]
   exact Sup.of rfl
 ·have hr1:=nV x i
  refine wk1 λhq=>?_;conv=>whnf
  refine aR (X:=Nat) (λj=>j≤(dl B9 y).length) (λj=>[(8,.int .i64 j),(7,.int .i64 (cm B9 x y i j:Nat)),(9,.any)]) (λj=>[(0,.cells (.ints .i64 (dm B9 ((dl B9 x).length+(dl B9 y).length) (i+j) (tj B9 x y i j) (x % B9 ^ i*y))) false)]) (λj=>(dl B9 y).length-j) 0 ⟨aH,mixed,ak,sH,aN⟩ qqR qqO ?_ ?_
  ·repeat'((conv=>whnf);first|intro _|apply aI|exact aD|apply nM|apply fM)
   all_goals((try apply vM);(try simp only[vq]at*);try omega)
   ·rw[DU];rfl
   ·rw[DT,JJ]
  intro j hj;have hm:=iY B9 ((dl B9 x).length+(dl B9 y).length) (i+j) (tj B9 x y i j) (x % B9 ^ i*y);have hc:cm B9 x y i j<1000000000:=Cm B92 x y i j;have hc':cm B9 x y i (j+1)<1000000000:=Cm B92 x y i (j+1);have hij:((i:Int)+(j:Int)).toNat=i+j:=qqO;by_cases e:j=(dl B9 y).length
  ·subst e
   have hz:(dm B9 ((dl B9 x).length+(dl B9 y).length) (i+(dl B9 y).length) (tj B9 x y i (dl B9 y).length) (x % B9 ^ i*y)).getD (i+(dl B9 y).length) 0=0:=by
    rw[lS _ _ _ _ _ _ qqO,if_neg qqO,rU B92 x i hly];rfl
   repeat'((conv=>whnf);first|(intro hq;(try simp only[vw]at hq);try exact aV hq)|apply aI|exact aD|apply nM|apply fM)
   all_goals((try apply vM);(try simp only[vq]at*);try omega)
   all_goals(try rw[hij])
   all_goals(try rw[hz])
   all_goals first
    |omega
    |(rw[Int.zero_add,aeF hly qqO]
      refine⟨i+1,[],⟨qqO,qqO⟩,?_⟩;rw[show((i+1:Nat):Int)=(i:Int)+1 by omega]
      all_goals exact iG)
  ·have hr2:=nV y j
   obtain⟨P,O,eP,eO,p0,p1,o0,o1,E1,E2⟩:=ajb x y i j ((dl B9 x).length+(dl B9 y).length) qqO;refine wk7 (λhq=>?_) (λhq=>?_) (λhq=>?_) (λhq=>?_) (λhq=>?_) (λhq=>?_) λhq=>?_;all_goals(try rw[hij])
   all_goals(try rw[eP,eO])
   all_goals(try rw[eO])
   all_goals(try rw[eP])
   all_goals(try rw[E1])
   all_goals first
    |omega
    |(rw[E2,YG qqO rfl]
      refine⟨j+1,[],⟨qqO,qqO⟩,?_⟩;rw[show((j+1:Nat):Int)=(j:Int)+1 by omega]
      exact wk0;all_goals skip)
def GD:PSp:=λxs K=>match xs with
 | [.isl (.ints .i64 l) .none,.isl (.ints .i64 m) .none]=>VC (D9 l/\D9 m/\l.length≤400000000000/\m.length≤400000000000)/\K (.isl (zd9 (v9 l*v9 m)) .none)
 |_=>False
theorem ND:POK Tryz.prog 209 GD:=by
 intro xs K hk;unfold GD at hk;split at hk
 ·obtain⟨h1,h2,h3,h4⟩:=hk.1.get
  rename_i l m;obtain⟨x,rfl⟩:=fq h1;obtain⟨y,rfl⟩:=fq h2;refine⟨_,hk.2,?_⟩;rw[dR,dR];exact Vf x y h3 h4
 ·exact hk.elim
theorem YH (x y:Nat) (hx:(dl B9 x).length≤400000000000) (hy0:y≠0) (hy:y<B9):aB Tryz.prog 240 [.isl (zd9 x) .none,.int .i64 y] (.tup [.isl (zd9 (x / y)) .none,.int .i64 (x % y:Nat)]):=by
 have hy':y<1000000000:=hy;have hr:x % y<y:=al8 _ qqO;have hQl:x / y<B9 ^ (dl B9 x).length:=an4 (aon _ _) (bU B92 x);have hX0:x / B9 ^ (dl B9 x).length=0:=alR (bU B92 x);refine au (md:=1) (rf:=[]) mixed ak sH Tryz.func240 qqR qqR qqR ?_;refine wk2 ?_ ?_
 ·exact .inl trivial
 conv=>whnf
 refine aR (X:=Nat) (λk=>k≤(dl B9 x).length) (λk=>[(8,.int .i64 ((k:Int)-1)),(7,.int .i64 ((x / B9 ^ k % y:Nat):Int)),(9,.any)]) (λk=>[(0,.cells (.ints .i64 (dm B9 (dl B9 x).length k 0 (x / y))) false)]) (λk=>k) (dl B9 x).length ⟨aH,mixed,ak,sH,aN⟩ qqR qqO ?_ ?_
 ·refine wk2 ?_ ?_
  all_goals first
   |(rw[hX0,Nat.zero_mod];rfl)
   |(rw[qy _ _ (alo _),kL];rfl)
   |(rw[qy _ _ (alo _),kL])
 intro k hk;have hm:=iY B9 (dl B9 x).length k 0 (x / y);cases k with
 |zero=>
  refine wk2 (λhq=>?_) λhq=>?_;all_goals first
   |(rw[fV _ _ hm.symm,hm];omega)
   |(rw[fV _ _ hm.symm,pF,jk B92 hQl,aod,amb];exact Sup.of rfl)
 |succ k=>
  have hX1:=(TU (B:=B9) (b:=y) B92 qqO x k).resolve_right qqO;have hX2:=DW B9 y x k;have hr1:=nV x k;have hrk:x / B9 ^ (k+1) % y<y:=al8 _ qqO;have hrk2:x / B9 ^ k % y<y:=al8 _ qqO;have hQm:x / y / B9 ^ k % B9<1000000000:=al8 _ qqD;have hQ:(((x / B9 ^ (k+1) % y:Nat):Int)*1000000000+(dl B9 x).getD k 0).tdiv y=((x / y / B9 ^ k % B9:Nat):Int):=by
   have:=congrArg (aoy:Nat->Int) hX1;rw[tdv qqO,bG B92];refine Eq.trans (b:=(((x / B9 ^ (k+1) % y*B9+x / B9 ^ k % B9) / y:Nat):Int)) ?_ this;generalize x / B9 ^ (k+1) % y=u
   generalize x / B9 ^ k % B9=v
   rw[aol,aoa,an9];rfl
  have hR:(((x / B9 ^ (k+1) % y:Nat):Int)*1000000000+(dl B9 x).getD k 0).tmod y=((x / B9 ^ k % y:Nat):Int):=by
   have:=congrArg (aoy:Nat->Int) hX2;rw[tmd qqO,bG B92];refine Eq.trans (b:=(((x / B9 ^ (k+1) % y*B9+x / B9 ^ k % B9) % y:Nat):Int)) ?_ this;generalize x / B9 ^ (k+1) % y=u
   generalize x / B9 ^ k % B9=v
   rw[anP,aoa,an9];rfl
  rw[show((k+1:Nat):Int)-1=(k:Int) by omega]
  refine wk1 λhq=>?_;all_goals(try rw[hQ])
  all_goals(try rw[hR])
  all_goals first
   |omega
   |(rw[sw qqO rfl]
     refine⟨k,[],⟨qqO,qqO⟩,?_⟩;exact wk0;all_goals skip)
def YI:PSp:=λxs K=>match xs with
 | [.isl (.ints .i64 l) .none,.int .i64 d]=>VC (D9 l/\l.length≤400000000000/\1≤d/\d<1000000000)/\K (.tup [.isl (zd9 (v9 l / d.toNat)) .none,.int .i64 (v9 l % d.toNat:Nat)])
 |_=>False
theorem ahB:POK Tryz.prog 240 YI:=by
 intro xs K hk;unfold YI at hk;split at hk
 ·obtain⟨h1,h2,h3,h4⟩:=hk.1.get
  rename_i l d;obtain⟨x,rfl⟩:=fq h1;obtain⟨y,rfl⟩:=an2 (show 0≤d by omega)
  refine⟨_,hk.2,?_⟩;rw[dR];exact YH x y h2 qqO (by unfold B9;omega)
 ·exact hk.elim
def gq (T V n:Nat):Nat:=min 999999999 (T / B9 ^ (n-2) / (V / B9 ^ (n-2)))
theorem Vg {V T m:Nat} (hn:(dl B9 V).length=m+2) (hT:T<B9*V):∃u0 u1 u2 v1 v2:Nat,T / B9 ^ (m+2) % B9=u0/\T / B9 ^ (m+1) % B9=u1/\T / B9 ^ m % B9=u2/\V / B9 ^ (m+1) % B9=v1/\V / B9 ^ m % B9=v2/\
 u0<1000000000/\u1<1000000000/\u2<1000000000/\v1<1000000000/\v2<1000000000/\1≤v1/\u0≤v1/\T / B9 ^ m=(u0*1000000000+u1)*1000000000+u2/\V / B9 ^ m=v1*1000000000+v2:=by
 have hVl:=bU B92 V;rw[hn]at hVl;have hVg:=jI B92 V (m+1) hn;have hW:0<B9:=qqD;have p1:=pw B92 (m+1);have hTl:T<B9 ^ (m+3):=by
  have:B9*V≤B9*B9 ^ (m+2):=anS _ qqO;rw[anu B9 (m+2),alP];omega
 have tU:=gT B9 T m;have tU1:=gT B9 T (m+1);have tU2:=gT B9 T (m+2);have tU3:T / B9 ^ (m+3)=0:=alR hTl;have tV:=gT B9 V m;have tV1:=gT B9 V (m+1);have tV2:V / B9 ^ (m+2)=0:=alR hVl;have l0:=al8 (T / B9 ^ (m+2)) hW;have l1:=al8 (T / B9 ^ (m+1)) hW;have l2:=al8 (T / B9 ^ m) hW;have l3:=al8 (V / B9 ^ (m+1)) hW;have l4:=al8 (V / B9 ^ m) hW;have q1:1≤V / B9 ^ (m+1):=(al9 p1).2 qqO;have hu0:T / B9 ^ (m+2)≤V / B9 ^ (m+1):=by
  have:T / B9 ^ (m+2)=T / B9 / B9 ^ (m+1):=by rw[ant,anu B9 (m+1),alP]
  rw[this];exact Nat.div_le_div_right (anZ ((al6 hW).2 (by rw[alP];exact hT)))
 rw[show m+2+1=m+3 from rfl,tU3,amo,alO]at tU2;rw[show m+1+1=m+2 from rfl,tV2,amo,alO]at tV1;rw[show m+1+1=m+2 from rfl]at tU1;refine⟨_,_,_,_,_,rfl,rfl,rfl,rfl,rfl,l0,l1,l2,l3,l4,qqO,qqO,?_,?_⟩
 ·exact tU.trans (congrArg (λz=>z*B9+T / B9 ^ m % B9) (tU1.trans (congrArg (λz=>z*B9+T / B9 ^ (m+1) % B9) (by rw[alT];omega))))
 ·exact tV.trans (congrArg (λz=>z*B9+V / B9 ^ m % B9) (by rw[alT];omega))
theorem gsA {t Q v1 v2 t2 u2 V2 r:Nat} (hV2:V2=v1*1000000000+v2) (hQ:∀q,q≤Q↔q≤999999999/\q*V2≤t2*1000000000+u2) (i2:t*v1≤t2) (hr:t2-t*v1=r) (h1:t<1000000000) (h2:t*v2≤r*1000000000+u2):t≤Q:=by
 refine(hQ t).2 ⟨qqO,?_⟩;have eV:t*V2=t*v1*1000000000+t*v2:=by rw[hV2,apc,anW]
 omega
theorem gsB {t Q v1 v2 t2 u2 V2 r:Nat} (hV2:V2=v1*1000000000+v2) (hQ:∀q,q≤Q↔q≤999999999/\q*V2≤t2*1000000000+u2) (i1:Q≤t) (i2:t*v1≤t2) (hr:t2-t*v1=r) (h:¬(t<1000000000/\t*v2≤r*1000000000+u2)):Q+1≤t:=by
 refine apb i1 λe=>h ?_;have h2:=(hQ t).1 qqO;have eV:t*V2=t*v1*1000000000+t*v2:=by rw[hV2,apc,anW]
 omega
theorem gsC {t Q v1 v2 t2 u0 u1 u2 V2 r:Nat} (hV2:V2=v1*1000000000+v2) (hQ:∀q,q≤Q↔q≤999999999/\q*V2≤t2*1000000000+u2) (i2:t*v1≤t2) (hr:t2-t*v1=r) (ht:1≤t) (h:1000000000≤r+v1) (h0:u0≤v1) (h2:t2=u0*1000000000+u1) (l1:u1<1000000000) (l4:v2<1000000000):t-1≤Q:=by
 have e1:(t-1)*v1=t*v1-v1:=by rw[apd,al4]
 have e3:v1≤t*v1:=aow _ ht;have hlt:t-1<1000000000:=ape λhle=>by
  have:=al2 v1 hle;have:=al2 1000000000 h0;omega
 have hmx:(t-1)*v2≤999999999*999999999:=amy qqO qqO;refine gsA (r:=r+v1) hV2 hQ qqO qqO hlt qqO
theorem ajc {V T n:Nat} (hn:(dl B9 V).length=n) (hn2:2≤n) (hT:T<B9*V):T / V≤gq T V n/\gq T V n≤T / V+1/\gq T V n<1000000000:=by
 obtain⟨m,rfl⟩:∃m,n=m+2:=⟨n-2,qqO⟩;obtain⟨u0,u1,u2,v1,v2,_,_,_,_,_,_,_,_,_,_,h1,h2,e1,e2⟩:=Vg hn hT;have hp:=pw B92 m;unfold gq;rw[show m+2-2=m by omega]
 have hV0:0<V:=al5 λh=>by subst h;simp[ji]at hn
 have hV2:0<V / B9 ^ m:=by rw[e2];omega
 have hTB:T / V<1000000000:=(al6 hV0).2 hT;refine⟨?_,?_,qqO⟩
 ·refine apf.2 ⟨qqO,?_⟩
  have:=Cn (p:=B9 ^ m) (U:=T) (V:=V) (u2:=T / B9 ^ m) (v2:=V / B9 ^ m) (q:=T / B9 ^ m / (V / B9 ^ m)+1) (by rw[alP];exact aou T hp) (aos _ _) (by
   have:=aou (T / B9 ^ m) hV2;rw[alP]at this;exact this)
  omega
 ·refine Co (B:=B9) (p:=B9 ^ m) (u2:=T / B9 ^ m) (v2:=V / B9 ^ m) (w:=V % B9 ^ m) (aos _ _) (Nat.div_add_mod' V (B9 ^ m)).symm (al8 _ hp) (by rw[e2];unfold B9;omega) (by unfold B9;omega) ?_
  have h3:min 999999999 (T / B9 ^ m / (V / B9 ^ m))*(V / B9 ^ m)≤T / B9 ^ m / (V / B9 ^ m)*(V / B9 ^ m):=al2 _ (Nat.min_le_right _ _);have h4:=aos (T / B9 ^ m) (V / B9 ^ m);omega
theorem aeG (V Z L j:Nat) (hn2:2≤(dl B9 V).length) (hj:j+(dl B9 V).length+1≤L) (hL:L≤900000000000) (hT:Z / B9 ^ j<B9*V):
 aB Tryz.prog 242 [.isl (.ints .i64 (dn B9 L Z)) .none,.isl (zd9 V) .none,.int .i64 j] (.int .i64 (gq (Z / B9 ^ j) V (dl B9 V).length:Nat)):=by
 have hU:∀k,k≤(dl B9 V).length->(dn B9 L Z).getD (j+k) 0=((Z / B9 ^ j / B9 ^ k % B9:Nat):Int):=λk hk=>by
  rw[yg _ _ _ _ qqO,anI,ant]
 have hlen:=dw B9 L Z;obtain⟨m,hn⟩:∃m,(dl B9 V).length=m+2:=⟨(dl B9 V).length-2,qqO⟩;have hdl:=bG B92 V;generalize hTT:Z / B9 ^ j=T at*
 obtain⟨u0,u1,u2,v1,v2,a0,a1,a2,b1,b2,l0,l1,l2,l3,l4,h1,h2,e1,e2⟩:=Vg hn hT;have hq:gq T V (dl B9 V).length=min 999999999 (((u0*1000000000+u1)*1000000000+u2) / (v1*1000000000+v2)):=by
  unfold gq;rw[hn,show m+2-2=m by omega,e1,e2]
 have E0:(dn B9 L Z).getD (((j:Int)+((dl B9 V).length:Int)).toNat) 0=(u0:Int):=by rw[show((j:Int)+((dl B9 V).length:Int)).toNat=j+(m+2) by omega,hU _ qqO,a0]
 have E1:(dn B9 L Z).getD (((j:Int)+((dl B9 V).length:Int)-1).toNat) 0=(u1:Int):=by rw[show((j:Int)+((dl B9 V).length:Int)-1).toNat=j+(m+1) by omega,hU _ qqO,a1]
 have E2:(dn B9 L Z).getD (((j:Int)+((dl B9 V).length:Int)-2).toNat) 0=(u2:Int):=by rw[show((j:Int)+((dl B9 V).length:Int)-2).toNat=j+m by omega,hU _ qqO,a2]
 have F1:(dl B9 V).getD ((((dl B9 V).length:Int)-1).toNat) 0=(v1:Int):=by rw[show(((dl B9 V).length:Int)-1).toNat=m+1 by omega,hdl,b1]
 have F2:(dl B9 V).getD ((((dl B9 V).length:Int)-2).toNat) 0=(v2:Int):=by rw[show(((dl B9 V).length:Int)-2).toNat=m by omega,hdl,b2]
 obtain⟨t2,ht2⟩:∃t2,t2=u0*1000000000+u1:=⟨_,rfl⟩;obtain⟨V2,hV2⟩:∃V2,V2=v1*1000000000+v2:=⟨_,rfl⟩;rw[<-ht2,<-hV2]at hq;have hqd:∀q,q≤gq T V (dl B9 V).length↔q≤999999999/\q*V2≤t2*1000000000+u2:=λq=>by
  rw[hq,apf,al9 qqO]
 generalize gq T V (dl B9 V).length=Q at*
 have hQ:=(hqd Q).1 (alo _);clear hU hdl a0 a1 a2 b1 b2 e1 e2 hq hT;have htop:(u0:Int)*1000000000+(u1:Int)=(t2:Int):=qqO;have hdm:=al7 t2 v1;have hml:=al8 t2 h1;have hstart:Q≤t2 / v1:=by
  rw[al9 h1];have h3:=hQ.2;rw[hV2,apc]at h3;have h4:Q*(v1*1000000000)=(Q*v1)*1000000000:=(anW _ _ _).symm;omega
 have hdc:t2 / v1*v1=v1*(t2 / v1):=alP _ _;have D1:((t2:Nat):Int).tdiv (v1:Int)=((t2 / v1:Nat):Int):=by rw[tdv qqO,aol]
 have D2:((t2:Nat):Int).tmod (v1:Int)=((t2 % v1:Nat):Int):=by rw[tmd qqO,anP]
 have D3:t2 / v1≤t2:=aon _ _;refine au (md:=1) (rf:=[]) mixed ak aC Tryz.func242 qqR qqR qqR ?_;refine wk3 ?_ ?_ ?_;all_goals(try simp only[E0,E1,F1,htop,D1,D2])
 all_goals(try omega)
 conv=>whnf
 refine gy (X:=Nat) (λk=>btw 42 76 k) (λt=>Q≤t/\t*v1≤t2/\t2-t*v1<1000000000/\t≤t2) (λt=>[(9,.int .i64 t),(10,.int .i64 (t2-t*v1:Nat))]) (λt=>[]) (λt=>t) (t2 / v1) ⟨aH,mixed,ak,aC,aN⟩ qqR ⟨hstart,qqO,qqO,D3⟩ ?_ ?_
 ·exact wk0
  all_goals(first|rfl|(rw[show t2-t2 / v1*v1=t2 % v1 by omega])|(refine congrArg (aoy:Nat->Int) ?_;omega))
 intro t ⟨i1,i2,i3,i4⟩;generalize hr:t2-t*v1=r at*
 have eF:(t:Int)*(v2:Int)=((t*v2:Nat):Int):=by rw[an9]
 have hmx:t<1000000000->t*v2≤999999998000000001:=λh=>amy (show t≤999999999 by omega) (show v2≤999999999 by omega)
 have et1:1≤t->(t-1)*v1=t*v1-v1:=λh=>by rw[apd,al4]
 have hv1t:1≤t->v1≤t*v1:=λh=>aow _ h;have gC:=λa b=>gsC (Q:=Q) (u0:=u0) (u1:=u1) hV2 hqd i2 hr a b h2 ht2 l1 l4;by_cases hpass:t<1000000000/\t*v2≤r*1000000000+u2
 ·have htQ:t=Q:=apa (gsA hV2 hqd i2 hr hpass.1 hpass.2) i1
  have hm1:=hmx hpass.1;subst htQ;clear hqd hQ hmx et1 hv1t gC hdm hml hstart hdc D1 D2 D3;refine wk5 (λhq=>?_) (λhq=>?_) (λhq hq hq=>?_) (λhq hq hq=>?_) λhq hq=>?_;all_goals(try simp only[E2,F2,eF])
  all_goals(try simp only[E2,F2,eF]at hq)
  all_goals first
   |omega
   |exact Sup.of rfl
   |(exfalso;simp only[E2,F2,eF]at*;omega)
 ·have htQ:=gsB hV2 hqd i1 i2 hr hpass
  have et1:=et1 qqO;have hv1t:=hv1t qqO;have gC:=gC qqO;clear hqd hQ hdm hml hstart hdc D1 D2;refine wk7 (λhq=>?_) (λhq=>?_) (λhq hq hq=>?_) (λhq hq hq=>?_) (λhq hq=>?_) (λhq hq=>?_) λhq hq=>?_;all_goals(try simp only[E2,F1,F2,eF])
  all_goals(try simp only[E2,F1,F2,eF]at hq)
  all_goals first
   |omega
   |(have:=hmx qqO;omega)
   |(refine⟨t-1,[],⟨⟨qqO,qqO,qqO,qqO⟩,qqO⟩,?_⟩
     exact wk0;all_goals(refine congrArg (aoy:Nat->Int) ?_;omega))
   |(have:=gC qqO
     refine Sup.of (congrArg (PV.int .i64) ?_);omega)
end Go.Eng.YtmkagljofpddpaaGreatDoor
namespace Go.Eng.Dig
set_option linter.unusedSimpArgs false
set_option linter.unusedVariables false
def cb (B q T V i:Nat):Int:= -((((T % B ^ i:Nat):Int)-((q*(V % B ^ i):Nat):Int)) / ((B ^ i:Nat):Int))
theorem aeH (B q T V:Nat):cb B q T V 0=0:=by simp[cb,amc]
theorem JK {B:Nat} (hB:2≤B) (q T V i:Nat):0≤cb B q T V i/\cb B q T V i≤q:=by
 have hp:=pw hB i;have h1:=al8 T hp;have h2:=al8 V hp;have h3:q*(V % B ^ i)≤q*B ^ i:=anS _ qqO;unfold cb;generalize V % B ^ i=v at*
 generalize T % B ^ i=t at*
 generalize B ^ i=p at*
 generalize hm:q*v=m at*
 have h5:(((t:Int)-(m:Int)) / (p:Int))<1:=Int.ediv_lt_of_lt_mul qqO qqO;have h6: -(q:Int)≤(((t:Int)-(m:Int)) / (p:Int)):=Int.le_ediv_of_mul_le qqO (by
  have:((q*p:Nat):Int)=(q:Int)*(p:Int):=an9 _ _;rw[apg,<-this];omega)
 omega
theorem aeI {B:Nat} (hB:2≤B) (q T V i:Nat):
 (((T / B ^ i % B:Nat):Int)-(((q*(V / B ^ i % B):Nat):Int)+cb B q T V i)) % (B:Int)=(((T:Int)-((q*V:Nat):Int)) / ((B ^ i:Nat):Int)) % (B:Int)/\
 -((((T / B ^ i % B:Nat):Int)-(((q*(V / B ^ i % B):Nat):Int)+cb B q T V i)) / (B:Int))=cb B q T V (i+1):=by
 have hp:=pw hB i;have hpI:((B ^ i:Nat):Int)≠0:=qqO;have eS:((T % B ^ (i+1):Nat):Int)-((q*(V % B ^ (i+1)):Nat):Int)=(((T % B ^ i:Nat):Int)-((q*(V % B ^ i):Nat):Int))+(((T / B ^ i % B:Nat):Int)-((q*(V / B ^ i % B):Nat):Int))*((B ^ i:Nat):Int):=by
  rw[lq,lq,apc];simp only[aoa,an9]
  grind
 have eq1:(((T % B ^ (i+1):Nat):Int)-((q*(V % B ^ (i+1)):Nat):Int)) / ((B ^ i:Nat):Int)=((T / B ^ i % B:Nat):Int)-(((q*(V / B ^ i % B):Nat):Int)+cb B q T V i):=by
  rw[eS,aph _ _ hpI];unfold cb;omega
 constructor
 ·have eT:=al7 T (B ^ (i+1))
  have eV:=al7 V (B ^ (i+1));have eD:(T:Int)-((q*V:Nat):Int)=(((T % B ^ (i+1):Nat):Int)-((q*(V % B ^ (i+1)):Nat):Int))+((((T / B ^ (i+1):Nat):Int)-((q*(V / B ^ (i+1)):Nat):Int))*(B:Int))*((B ^ i:Nat):Int):=by
   conv=>lhs;rw[<-eT,<-eV]
   rw[anu];simp only[aoa,an9];generalize((T / (B ^ i*B):Nat):Int)=a
   generalize((V / (B ^ i*B):Nat):Int)=b
   generalize((T % (B ^ i*B):Nat):Int)=c
   generalize((V % (B ^ i*B):Nat):Int)=d
   generalize((B ^ i:Nat):Int)=e
   grind
  rw[eD,aph _ _ hpI,eq1,apj]
 ·rw[<-eq1,Int.ediv_ediv,if_neg qqO,Int.sub_zero,<-an9,<-anu]
  rfl
theorem ahC {B:Nat} (hB:2≤B) {q T V n:Nat} (hV:V<B ^ n):((T / B ^ n:Nat):Int)-cb B q T V n=((T:Int)-((q*V:Nat):Int)) / ((B ^ n:Nat):Int):=by
 have hp:=pw hB n;have hpI:((B ^ n:Nat):Int)≠0:=qqO;have eT:=al7 T (B ^ n);have eD:(T:Int)-((q*V:Nat):Int)=(((T % B ^ n:Nat):Int)-((q*(V % B ^ n):Nat):Int))+((T / B ^ n:Nat):Int)*((B ^ n:Nat):Int):=by
  rw[alT hV];have:=congrArg (aoy:Nat->Int) eT;rw[aoa,an9,apk]at this;omega
 rw[eD,aph _ _ hpI];unfold cb;omega
theorem YJ {B:Nat} (hB:2≤B) {E n c:Nat} {D:Int} (h:(E:Int)=D+c*((B ^ n:Nat):Int)) {i:Nat} (hi:i<n):((E / B ^ i % B:Nat):Int)=D / ((B ^ i:Nat):Int) % (B:Int):=by
 have hp:=pw hB i;have hpI:((B ^ i:Nat):Int)≠0:=qqO;obtain⟨s,rfl⟩:∃s,n=i+(s+1):=⟨n-i-1,qqO⟩;have eD:(E:Int)=D+(c*((B ^ s:Nat):Int)*(B:Int))*((B ^ i:Nat):Int):=by
  rw[h,anI,anu];simp only[an9]
  grind
 rw[anP,aol,eD,aph _ _ hpI,apj]
end Go.Eng.Dig
namespace Go.Eng.YtmkagljofpddpaaGreatDoor
open Go.Proofs Go.Eng.Dig
set_option linter.unusedSimpArgs false
set_option linter.unusedVariables false
set_option maxHeartbeats 0
set_option maxRecDepth 100000
def gsT (X V L:Nat):PSp:=λxs K=>match xs with
 | [.isl (.ints .i64 d) .none,.isl (.ints .i64 l) .none,.int .i64 j]=>VC (d=dn B9 L (zd B9 X V (j.toNat+1))/\l=dl B9 V/\0≤j/\2≤(dl B9 V).length/\j.toNat+(dl B9 V).length+1≤L/\L≤900000000000)/\K (.int .i64 (gq (zd B9 X V (j.toNat+1) / B9 ^ j.toNat) V (dl B9 V).length:Nat))
 |_=>False
theorem ahD (X V L:Nat):POK Tryz.prog 242 (gsT X V L):=by
 intro xs K hk;unfold gsT at hk;split at hk
 ·obtain⟨h1,h2,h3,h4,h5,h6⟩:=hk.1.get
  rename_i d l j;subst h1 h2;obtain⟨i,rfl⟩:=an2 h3;have hV:0<V:=al5 λh=>by subst h;simp[ji]at h4
  exact⟨_,hk.2,aeG V _ L i h4 h5 h6 (Qz B92 hV X i)⟩
 ·exact hk.elim
theorem YK {r:Nat} (h:r<B9):trm [(r:Int)]=dl B9 r:=by
 by_cases h0:r=0
 ·subst h0;rfl
 ·rw[jQ B92 h0 h]
  exact zP [] qqO
noncomputable def ako (X V L:Nat):CPT:=ay 207 (aJ GA) (ay 240 (aJ YI) (ay 241 (nS sG) (ay 209 (aJ GD) (ay 242 (IU (gsT X V L)) noC))))
theorem Eo (X V L:Nat):aZ Tryz.prog (ako X V L):=aj (aA NC) (aj (aA ahB) (aj (kC uX) (aj (aA ND) (aj (TG (ahD X V L)) aC))))
theorem ahE (x y:Nat) (hx:(dl B9 x).length≤400000000) (hy:(dl B9 y).length≤400000000) (h:x<y):aB Tryz.prog 199 [.isl (zd9 x) .none,.isl (zd9 y) .none] (.tup [.isl (zd9 (x / y)) .none,.isl (zd9 (x % y)) .none]):=by
 have hc:dU x y= -1:=by unfold dU;rw[if_pos h]
 rw[alR h,alT h];have hC:=Eo 0 0 0;refine au (md:=1) (rf:=[]) mixed ak hC Tryz.func199 qqR qqR qqR ?_
 repeat'((conv=>whnf);first|(intro hq;(try simp only[vw]at hq);try exact aV hq)|apply aI|exact aD|apply nM|apply fM)
 all_goals((try apply vM);(try simp only[vq]at*);try omega)
 all_goals(try simp only[dR,hc]at*)
 all_goals first
  |exact⟨dK _,dK _,qqO,qqO⟩
  |(exfalso;omega)
  |refine Sup.via ?_
 all_goals repeat'((conv=>whnf);first|intro _|apply aI|exact aD|apply nM|apply fM)
 all_goals all_goals((try apply vM);(try simp only[vq]at*);try omega)
 all_goals exact rfl
theorem aeJ (x y:Nat) (hx:(dl B9 x).length≤400000000) (hy0:y≠0) (hy:y<B9) (h:y≤x):aB Tryz.prog 199 [.isl (zd9 x) .none,.isl (.ints .i64 [(y:Int)]) .none] (.tup [.isl (zd9 (x / y)) .none,.isl (zd9 (x % y)) .none]):=by
 have hd1:=jQ B92 hy0 hy;have hvy:v9 [(y:Int)]=y:=by rw[<-hd1];exact dR y
 have hdw:D9 [(y:Int)]:=by rw[<-hd1];exact dK y
 have hc:0≤dU x y:=by unfold dU;split<;>(try split)<;>omega
 have hy':y<1000000000:=hy;have hr:x % y<y:=al8 _ qqO;have hg:([(y:Int)].getD (an8 0) 0)=(y:Int):=rfl;have ht:=YK (r:=x % y) (aox hr hy);have hC:=Eo 0 0 0;refine au (md:=1) (rf:=[]) mixed ak hC Tryz.func199 qqR qqR qqR ?_;refine wk4 ?_ (λhq=>?_) (λhq hq=>?_) λhq hq=>?_;all_goals(try simp only[dR,hvy,hg,anG]at*)
 all_goals first
  |exact⟨dK _,hdw,qqO,qqS⟩
  |exact⟨dK _,qqO,qqO,qqO⟩
  |(exfalso;omega)
  |(rw[ht];exact Sup.of rfl)
theorem Vh {y n F:Nat} (hn:(dl B9 y).length=n+1) (hF:F=1000000000 / (y / B9 ^ n+1)):1≤F/\F<B9/\y*F<B9 ^ (n+1)/\(dl B9 (y*F)).length=n+1/\(dl B9 y).getD n 0=((y / B9 ^ n:Nat):Int)/\1≤y / B9 ^ n/\y / B9 ^ n<B9:=by
 have hl:=bU B92 y;have hg:=jI B92 y n hn;rw[hn]at hl;have hp:=pw B92 n;have h1:1≤y / B9 ^ n:=(al9 hp).2 qqO;have h2:y / B9 ^ n<B9:=by
  rw[al6 hp,alP,<-anu];exact hl
 have ht:(dl B9 y).getD n 0=((y / B9 ^ n:Nat):Int):=by rw[bG B92,alT h2]
 have h3:y<(y / B9 ^ n+1)*B9 ^ n:=by rw[alP];exact aou y hp
 have hF1:1≤F:=by rw[hF];exact(al9 qqO).2 (by unfold B9 at*;omega)
 have hF2:F<B9:=by
  rw[hF];refine(al6 qqO).2 ?_;have:B9*2≤B9*(y / B9 ^ n+1):=anS _ qqO;unfold B9 at*;omega
 have hFm:F*(y / B9 ^ n+1)≤B9:=by rw[hF];exact aos _ _
 have h4:y*F<B9 ^ (n+1):=by
  have g1:y*F<(y / B9 ^ n+1)*B9 ^ n*F:=anT h3 hF1;have g2:(y / B9 ^ n+1)*B9 ^ n*F=F*(y / B9 ^ n+1)*B9 ^ n:=by grind
  have g3:F*(y / B9 ^ n+1)*B9 ^ n≤B9*B9 ^ n:=al2 _ hFm;rw[anu,alP (B9 ^ n)];omega
 have g4:=fG B92 h4;have g5:=lQ B92 (x:=y*F) (k:=n) (als hg (amq _ hF1));exact⟨hF1,hF2,h4,qqO,ht,h1,h2⟩
theorem aeK {q T V i:Nat} (hq:q<B9):∃p x t:Int,(q:Int)*(dl B9 V).getD i 0+cb B9 q T V i=p/\((T / B9 ^ i % B9:Nat):Int)=t/\t-p.tmod 1000000000=x/\0≤p/\p≤1000000000000000000/\0≤t/\t<1000000000/\ -1000000000≤x/\x<1000000000/\0≤p.tdiv 1000000000/\p.tdiv 1000000000≤1000000000/\
 (x<0->x+1000000000=(((T:Int)-((q*V:Nat):Int)) / ((B9 ^ i:Nat):Int)) % 1000000000/\p.tdiv 1000000000+1=cb B9 q T V (i+1))/\(¬x<0->x=(((T:Int)-((q*V:Nat):Int)) / ((B9 ^ i:Nat):Int)) % 1000000000/\p.tdiv 1000000000=cb B9 q T V (i+1)):=by
 obtain⟨e1,e2⟩:=aeI B92 q T V i;obtain⟨c1,c2⟩:=JK B92 q T V i;have hv:=al8 (V / B9 ^ i) (by decide:B9>0)
 have ht:=al8 (T / B9 ^ i) (by decide:B9>0)
 have hqv:q*(V / B9 ^ i % B9)≤999999998000000001:=amy (show q≤999999999 by unfold B9 at hq;omega) (show V / B9 ^ i % B9≤999999999 by unfold B9 at*;omega)
 have ep:(q:Int)*(dl B9 V).getD i 0=((q*(V / B9 ^ i % B9):Nat):Int):=by rw[bG B92,an9]
 refine⟨_,_,_,rfl,rfl,rfl,?_⟩;rw[ep,tmd qqO,tdv qqO];have e3:cb B9 q T V (i+1)= -((((T / B9 ^ i % B9:Nat):Int)-(((q*(V / B9 ^ i % B9):Nat):Int)+cb B9 q T V i)) / (1000000000:Int)):=e2.symm;have e4:((T:Int)-((q*V:Nat):Int)) / ((B9 ^ i:Nat):Int) % 1000000000=(((T / B9 ^ i % B9:Nat):Int)-(((q*(V / B9 ^ i % B9):Nat):Int)+cb B9 q T V i)) % (1000000000:Int):=e1.symm;rw[e3,e4];have ht':T / B9 ^ i % B9<1000000000:=ht;have hq':q<1000000000:=hq;clear e1 e2 e3 e4 ep hv ht hq;generalize T / B9 ^ i % B9=t at*
 generalize q*(V / B9 ^ i % B9)=m at*
 generalize cb B9 q T V i=c at*
 omega
theorem YL {L j nv E Z:Nat} (hj:j+nv<L) (hE:E<B9 ^ nv) (hz:Z / B9 ^ (j+(nv+1))=0):(sg B9 L j nv E Z).set (j+nv) 0=dn B9 L (Z % B9 ^ j+E*B9 ^ j):=by
 have h0:(0:Int)=((E / B9 ^ nv % B9:Nat):Int):=by rw[alR hE];rfl
 rw[mJ hj h0];refine Cx B92 (alp hE (anL qqD qqO)) hz (λ_ _=>rfl)
theorem akp {L j nv E Z:Nat} (hj:j+nv<L) (hE:E<B9 ^ nv) (hz:Z / B9 ^ (j+(nv+1))=0) (c r:Int) (R:Nat):(sg B9 L j nv E Z).set (j+nv) c=(sg B9 L j 0 R (Z % B9 ^ j+E*B9 ^ j)).set (j+nv) c:=by
 rw[yE,<-YL hj hE hz,apl]
theorem ajd {L j nv i r Z:Nat} (hi:i<nv) (hj:j+nv<L) {c d:Int} (hd:d=((r / B9 ^ i % B9:Nat):Int)):((sg B9 L j i r Z).set (j+nv) c).set (j+i) d=(sg B9 L j (i+1) r Z).set (j+nv) c:=by
 rw[List.set_comm _ _ qqO,mJ qqO hd]
theorem akq {L j nv i r Z:Nat} (hi:i<nv) (hj:j+nv<L) {c:Int}:((sg B9 L j i r Z).set (j+nv) c).getD (j+i) 0=((Z / B9 ^ j / B9 ^ i % B9:Nat):Int):=by
 rw[alC,List.getElem?_set_ne qqO,<-alC,pJ _ _ _ _ _ _ _ qqO,if_neg qqO,anI,<-ant]
theorem abB {L j nv i r Z:Nat} (hj:j+nv<L) {c:Int}:((sg B9 L j i r Z).set (j+nv) c).getD (j+nv) 0=c:=by
 rw[alC,List.getElem?_set_self (by rw[su];exact hj)];rfl
theorem Rh {T V g nv:Nat} (hV0:0<V) (hV:V<B9 ^ nv) (h1:T / V≤g) (h2:g≤T / V+1):∃E c:Nat,(E:Int)=((T:Int)-((g*V:Nat):Int))+c*((B9 ^ nv:Nat):Int)/\E<B9 ^ nv/\((c=0/\g=T / V/\E=T % V)∨(c=1/\g=T / V+1/\E+V=T % V+B9 ^ nv)):=by
 have hd:=al7 T V;have hm:=al8 T hV0;have hc:T / V*V=V*(T / V):=alP _ _;by_cases h:g=T / V
 ·refine⟨T % V,0,?_,qqO,.inl ⟨rfl,h,rfl⟩⟩
  rw[h];omega
 ·have hg:g=T / V+1:=qqO
  refine⟨T % V+B9 ^ nv-V,1,?_,qqO,.inr ⟨rfl,hg,qqO⟩⟩;rw[hg,al3];omega
theorem aeL (x y:Nat) (hx:(dl B9 x).length≤400000000) (hy:(dl B9 y).length≤400000000) (hn2:2≤(dl B9 y).length) (h:y≤x):aB Tryz.prog 199 [.isl (zd9 x) .none,.isl (zd9 y) .none] (.tup [.isl (zd9 (x / y)) .none,.isl (zd9 (x % y)) .none]):=by
 have hc:0≤dU x y:=by unfold dU;split<;>(try split)<;>omega
 obtain⟨n,hn⟩:∃n,(dl B9 y).length=n+1:=⟨(dl B9 y).length-1,qqO⟩;obtain⟨F,hF⟩:∃F,F=1000000000 / (y / B9 ^ n+1):=⟨_,rfl⟩;obtain⟨hF1,hF2,hV,hVl,htop,ht1,ht2⟩:=Vh hn hF;have hlen:(dl B9 y).length≤(dl B9 x).length:=fG B92 (an4 h (bU B92 x));have en:(((dl B9 y).length:Int)-1).toNat=n:=qqO;have ht2':y / B9 ^ n<1000000000:=ht2;have eF:(1000000000:Int).tdiv (((y / B9 ^ n:Nat):Int)+1)=(F:Int):=by
  rw[tdv qqO,hF];generalize y / B9 ^ n=tp
  rw[aol,aoa];rfl
 have hdF:=jQ B92 (x:=F) qqO hF2;have hvF:v9 [(F:Int)]=F:=by rw[<-hdF];exact dR F
 have hDF:D9 [(F:Int)]:=by rw[<-hdF];exact dK F
 have hF2':F<1000000000:=hF2;have hdiv:x*F / (y*F)=x / y/\x*F % (y*F) / F=x % y:=uV hF1;have hXl:(dl B9 (x*F)).length≤(dl B9 x).length+1:=by
  refine fG B92 ?_;rw[anu];exact aoc (bU B92 x) hF2
 have hXg:(dl B9 x).length≤(dl B9 (x*F)).length:=fG B92 (an4 (amq _ hF1) (bU B92 (x*F)));have hXd:=Gu B92 (x*F);generalize hX:x*F=X at*
 generalize hVV:y*F=V at*
 have hC:=Eo X V ((dl B9 x).length+1);refine au (md:=1) (rf:=[62]) mixed ak hC Tryz.func199 qqR qqR qqR ?_
 repeat'((conv=>whnf);first|(intro hq;(try simp only[vw]at hq);try exact aV hq)|apply aI|exact aD|apply nM|apply fM)
 all_goals((try apply vM);(try simp only[vq]at*);try omega)
 all_goals(try simp only[dR,hvF,en,htop,eF,anG,hX,hVV])
 all_goals first
  |omega
  |exact⟨dK _,dK _,qqO,qqO⟩
  |exact⟨dK _,hDF,qqO,qqS⟩
  |(exfalso;rw[dR,dR]at hq;omega)
  |(exfalso;rw[en,htop]at*;omega)
  |skip
 have hX0:∀k,(dl B9 X).length≤k->X / B9 ^ k % B9=0:=λk hk=>by
  rw[alR (alp (bU B92 X) (anL qqD hk))];rfl
 conv=>whnf
 refine gy (X:=Nat) (λt=>btw 24 205 t) (λk=>(dl B9 X).length≤k/\k≤(dl B9 x).length+1) (λk=>[(11,.rsl 14 0 k)]) (λk=>[(14,.cells (.ints .i64 (dn B9 k X)) false)]) (λk=>(dl B9 x).length+1-k) (dl B9 X).length ⟨aH,mixed,ak,hC,aN⟩ qqR ⟨alo _,qqO⟩ ?_ ?_
 ·rw[<-hXd]
  exact wk0;all_goals skip
 intro k ⟨hk1,hk2⟩;have hmk:=dw B9 k X;by_cases hk:k=(dl B9 x).length+1
 ·subst hk
  have hV0:0<V:=al5 λh=>by subst h;simp[ji]at hVl
  have hstart:X<V*B9 ^ ((dl B9 x).length-n):=by
   have h1:=bU B92 x;have h2:=jI B92 y n hn;have h3:B9 ^ (dl B9 x).length=B9 ^ n*B9 ^ ((dl B9 x).length-n):=by rw[<-anI,show n+((dl B9 x).length-n)=(dl B9 x).length by omega]
   have h4:B9 ^ n*B9 ^ ((dl B9 x).length-n)≤y*B9 ^ ((dl B9 x).length-n):=al2 _ h2;have h5:x*F<y*B9 ^ ((dl B9 x).length-n)*F:=anT qqO hF1;have h6:y*B9 ^ ((dl B9 x).length-n)*F=y*F*B9 ^ ((dl B9 x).length-n):=by grind
   rw[hX,h6,hVV]at h5;exact h5
  have eN:(((((dl B9 x).length+1:Nat)):Int)-((dl B9 V).length:Int)).toNat=(dl B9 x).length-n:=qqO;refine wk2 (λhq=>?_) λhq=>?_;all_goals first
   |exact .inl trivial
   |skip
  conv=>whnf
  refine gy (X:=Nat) (λt=>btw 14 205 t) (λk=>k≤(dl B9 x).length-n) (λk=>[(13,.int .i64 ((k:Int)-1))]) (λk=>[(14,.cells (.ints .i64 (dn B9 ((dl B9 x).length+1) (zd B9 X V k))) false),(17,.cells (.ints .i64 (dm B9 ((dl B9 x).length-n) k 0 (X / V))) false)]) (λk=>k) ((dl B9 x).length-n) ⟨aH,mixed,ak,hC,aN⟩ qqR (alo _) ?_ ?_
  ·refine wk2 ?_ ?_
   ·rw[Jq hstart]
   ·rw[qy _ _ (alo _),kL,eN]
  intro k hk;have hm1:=dw B9 ((dl B9 x).length+1) (zd B9 X V k);have hm2:=iY B9 ((dl B9 x).length-n) k 0 (X / V);cases k with
  |zero=>
   rw[M8];have hZV:X % V<V:=al8 _ hV0;have eQ:(aoz (((((dl B9 x).length+1:Nat):Int)-((dl B9 V).length:Int)).toNat-0) (aoA 0 (dm B9 ((dl B9 x).length-n) 0 0 (X / V))))=dn B9 ((dl B9 x).length-n) (X / V):=by rw[fV _ _ (by rw[hm2];omega),pF]
   have eR:(aoz ((dl B9 V).length-0-0) (aoA 0 (dn B9 ((dl B9 x).length+1) (X % V))))=dn B9 (n+1) (X % V):=by
    rw[hVl];apply List.ext_getElem
    ·simp[dw]<;>omega
    ·intro k h1 h2
     simp only[ao6,aoR,List.getElem_take,dn,List.getElem_map,List.getElem_range]
   have hQl:X / V<B9 ^ ((dl B9 x).length-n):=(al6 hV0).2 (by rw[alP];exact hstart)
   have hRl:X % V<B9 ^ (n+1):=aox hZV hV;have hm0:=dw B9 ((dl B9 x).length+1) (X % V);have eT:trm (dn B9 (n+1) (X % V))=dl B9 (X % V):=jk B92 hRl;have eTl:=fG B92 hRl;have eG:[(F:Int)].getD (an8 0) 0=(F:Int):=rfl;refine wk4 (λhq=>?_) (λhq=>?_) (λhq=>?_) λhq=>?_;all_goals first
    |omega
    |(rw[eQ,dw];omega)
    |(rw[eR,dw];omega)
    |(rw[eR,eT,eG];exact⟨dK _,qqO,qqO,qqO⟩)
    |(rw[eQ,eR,jk B92 hQl,eT,eG,dR,anG,hdiv.1,hdiv.2];exact Sup.of rfl)
  |succ j=>
   have hjL:j+(n+1)+1≤(dl B9 x).length+1:=qqO;have hztk:aoz ((dl B9 x).length+1-0) (aoA 0 (dn B9 ((dl B9 x).length+1) (zd B9 X V (j+1))))=dn B9 ((dl B9 x).length+1) (zd B9 X V (j+1)):=fV _ _ hm1.symm;have hqT:=ahp B92 hV0 X j;have hnx:=MZ B92 X V j;have hTl:=Qz B92 hV0 X j;rw[show((j+1:Nat):Int)-1=(j:Int) by omega]
   generalize hZ:zd B9 X V (j+1)=Z at*
   generalize hT:Z / B9 ^ j=T at*
   obtain⟨g1,g2,g3⟩:=ajc hVl (show 2≤n+1 by omega) hTl
   have hVl2:=hVl;generalize hgq:gq T V (n+1)=g at*
   obtain⟨E,c,hE,hEl,hcc⟩:=Rh hV0 hV g1 g2;have hTB:T<B9 ^ (n+1+1):=alp hTl (by rw[anu,alP];exact al2 _ (anZ hV))
   have hTn:T / B9 ^ (n+1) % B9=T / B9 ^ (n+1):=alT ((al6 (pw B92 _)).2 (by rw[alP,<-anu];exact hTB))
   have hz0:Z / B9 ^ (j+(n+1+1))=0:=by rw[anI,<-ant,hT];exact alR hTB
   have hctop:((T / B9 ^ (n+1):Nat):Int)-cb B9 g T V (n+1)= -(c:Int):=by
    rw[ahC B92 hV];have hp:=pw B92 (n+1);refine(Int.ediv_emod_unique qqO (r:=(E:Int))).2 ⟨?_,qqO,qqO⟩ |>.1;rw[Int.mul_neg,apk];omega
   have hcb0:=JK B92 g T V (n+1);have hT1:T / B9 ^ (n+1)<1000000000:=by
    have:=al8 (T / B9 ^ (n+1)) (by decide:B9>0)
    rw[hTn]at this;exact this
   refine wk2 (λhq=>?_) λhq=>?_;all_goals first
    |exact⟨by rw[hztk,hZ],qqO,qqO,qqO,qqO⟩
    |skip
   rw[hZ,hT,hVl2,hgq];conv=>whnf
   refine gy (X:=Nat) (λt=>btw 24 205 t) (λi=>i≤n+1) (λi=>[(16,.int .i64 i),(15,.int .i64 (cb B9 g T V i)),(17,.any),(18,.any)]) (λi=>[(14,.cells (.ints .i64 (sg B9 ((dl B9 x).length+1) j i E Z)) false)]) (λi=>n+1-i) 0 ⟨aH,mixed,ak,hC,aN⟩ qqR qqO ?_ ?_
   ·refine wk2 ?_ ?_
    all_goals first|(rw[aeH])|(rw[yE])
   intro i hi;have hm3:=su B9 ((dl B9 x).length+1) j i E Z;obtain⟨cr1,cr2⟩:=JK B92 g T V i;by_cases e:i=n+1
   ·subst e
    have eTop:(sg B9 ((dl B9 x).length+1) j (n+1) E Z).getD (j+(n+1)) 0=((T / B9 ^ (n+1):Nat):Int):=by
     rw[pJ _ _ _ _ _ _ _ qqO,if_neg qqO,anI,<-ant,hT,hTn]
    have ejn:((j:Int)+((n+1:Nat):Int)).toNat=j+(n+1):=qqO;have hOT:(sg B9 ((dl B9 x).length+1) j (n+1) E Z).getD (((j:Int)+((n+1:Nat):Int)).toNat) 0-cb B9 g T V (n+1)= -(c:Int):=by rw[ejn,eTop,hctop]
    have hOS:((sg B9 ((dl B9 x).length+1) j (n+1) E Z).set (((j:Int)+((n+1:Nat):Int)).toNat) ((sg B9 ((dl B9 x).length+1) j (n+1) E Z).getD (((j:Int)+((n+1:Nat):Int)).toNat) 0-cb B9 g T V (n+1)))=(sg B9 ((dl B9 x).length+1) j (n+1) E Z).set (j+(n+1)) (-(c:Int)):=by rw[hOT,ejn]
    have hOG:((sg B9 ((dl B9 x).length+1) j (n+1) E Z).set (((j:Int)+((n+1:Nat):Int)).toNat) ((sg B9 ((dl B9 x).length+1) j (n+1) E Z).getD (((j:Int)+((n+1:Nat):Int)).toNat) 0-cb B9 g T V (n+1))).getD (((j:Int)+((n+1:Nat):Int)).toNat) 0= -(c:Int):=by
     rw[hOS,ejn];exact abB qqO
    have hOL:((sg B9 ((dl B9 x).length+1) j (n+1) E Z).set (((j:Int)+((n+1:Nat):Int)).toNat) ((sg B9 ((dl B9 x).length+1) j (n+1) E Z).getD (((j:Int)+((n+1:Nat):Int)).toNat) 0-cb B9 g T V (n+1))).length=(dl B9 x).length+1:=by rw[alZ,hm3]
    rcases hcc with⟨c0,hg,hEr⟩|⟨c1,hg,hEr⟩
    ·have hfin:=YL (L:=(dl B9 x).length+1) (show j+(n+1)<(dl B9 x).length+1 by omega) hEl hz0
     subst c0;rw[hEr,hnx,<-hEr]at hfin;rw[show-((0:Nat):Int)=0 from rfl]at*;have hgd:((g:Nat):Int)=((X / V / B9 ^ j % B9:Nat):Int):=by rw[hg,hqT]
     have hqset:(dm B9 ((dl B9 x).length-n) (j+1) 0 (X / V)).set j (g:Int)=dm B9 ((dl B9 x).length-n) j 0 (X / V):=sw qqO hgd;refine wk1 λhq hq=>?_;all_goals first
      |omega
      |(rw[hOS,hfin,hqset]
        refine⟨j,[],⟨qqO,qqO⟩,?_⟩;exact wk0;all_goals skip)
    ·subst c1
     have hm1':=akp (L:=(dl B9 x).length+1) (show j+(n+1)<(dl B9 x).length+1 by omega) hEl hz0 (-((1:Nat):Int)) 0 (T % V)
     have hgd:((g:Nat):Int)-1=((X / V / B9 ^ j % B9:Nat):Int):=by rw[<-hqT];omega
     have hqset:(dm B9 ((dl B9 x).length-n) (j+1) 0 (X / V)).set j ((g:Int)-1)=dm B9 ((dl B9 x).length-n) j 0 (X / V):=sw qqO hgd;have hZ2d:(Z % B9 ^ j+E*B9 ^ j) / B9 ^ j=E:=by rw[Nat.add_mul_div_right _ _ (pw B92 j),alR (al8 _ (pw B92 j)),alO]
     have hZ2m:(Z % B9 ^ j+E*B9 ^ j) % B9 ^ j=Z % B9 ^ j:=by rw[Nat.add_mul_mod_self_right,Nat.mod_mod]
     have hz2:(Z % B9 ^ j+E*B9 ^ j) / B9 ^ (j+(n+1+1))=0:=by
      rw[anI,<-ant,hZ2d];exact alR (alp hEl (anL qqD qqO))
     have hrl:T % V<B9 ^ (n+1):=aox (al8 _ hV0) hV;have hfin:=YL (L:=(dl B9 x).length+1) (show j+(n+1)<(dl B9 x).length+1 by omega) hrl hz2
     rw[hZ2m,hnx]at hfin;generalize hZZ:Z % B9 ^ j+E*B9 ^ j=Z2 at*
     rw[show-((1:Nat):Int)= -1 from rfl]at*;refine wk1 λhq hq=>?_;all_goals first
      |omega
      |skip
     rw[hOS,hm1'];conv=>whnf
     refine gy (X:=Nat) (λt=>btw 22 205 t) (λi=>i≤n+1) (λi=>[(20,.int .i64 i),(19,.int .i64 (ca B9 E V i:Nat)),(21,.any)]) (λi=>[(14,.cells (.ints .i64 ((sg B9 ((dl B9 x).length+1) j i (T % V) Z2).set (j+(n+1)) (-1))) false)]) (λi=>n+1-i) 0 ⟨aH,mixed,ak,hC,aN⟩ qqR qqO ?_ ?_
     ·refine wk1 ?_
      all_goals first|(rw[rR];rfl)
     intro i hi;have hm4:((sg B9 ((dl B9 x).length+1) j i (T % V) Z2).set (j+(n+1)) (-1)).length=(dl B9 x).length+1:=by rw[alZ,su]
     have hca:=nT B92 E V i;by_cases e:i=n+1
     ·subst e
      have hcaE:ca B9 E V (n+1)=1:=by
       rw[Ja hEl hV,hEr];rw[Nat.add_div_right _ (pw B92 _),alR hrl]
      have hOT2:((sg B9 ((dl B9 x).length+1) j (n+1) (T % V) Z2).set (j+(n+1)) (-1)).getD (((j:Int)+((n+1:Nat):Int)).toNat) 0= -1:=by
       rw[ejn];exact abB qqO
      refine wk1 λhq=>?_;all_goals(try rw[hOT2])
      all_goals(try rw[hcaE])
      all_goals first
       |omega
       |(rw[ejn,apl,show(-1:Int)+((1:Nat):Int)=0 from rfl,hfin,hqset]
         refine⟨j,[],⟨qqO,qqO⟩,?_⟩;exact wk0;all_goals skip)
     ·have eij:((i:Int)+(j:Int)).toNat=j+i:=qqO
      have hO:((sg B9 ((dl B9 x).length+1) j i (T % V) Z2).set (j+(n+1)) (-1)).getD (((i:Int)+(j:Int)).toNat) 0=((E / B9 ^ i % B9:Nat):Int):=by
       rw[eij,akq qqO qqO,hZ2d]
      have hdd:=al8 (E / B9 ^ i) (by decide:B9>0)
      have hvv:=nV V i;have e1:=wP B92 E V i;have e2:=rT B92 E V i;rw[hEr,Cy B92 (T % V) (n+1) i qqO]at e1;have E1:(((E / B9 ^ i % B9:Nat):Int)+(dl B9 V).getD i 0+(ca B9 E V i:Nat)).tmod 1000000000=((T % V / B9 ^ i % B9:Nat):Int):=by
       rw[tmd qqO,bG B92,<-e1];generalize E / B9 ^ i % B9=a
       generalize V / B9 ^ i % B9=b
       generalize ca B9 E V i=c
       rw[anP];rfl
      have E2:(((E / B9 ^ i % B9:Nat):Int)+(dl B9 V).getD i 0+(ca B9 E V i:Nat)).tdiv 1000000000=(ca B9 E V (i+1):Nat):=by
       rw[tdv qqO,bG B92,<-e2];generalize E / B9 ^ i % B9=a
       generalize V / B9 ^ i % B9=b
       generalize ca B9 E V i=c
       rw[aol];rfl
      have hdd':E / B9 ^ i % B9<1000000000:=hdd;have hca1:=nT B92 E V (i+1);have hst:=ajd (L:=(dl B9 x).length+1) (i:=i) (r:=T % V) (Z:=Z2) (show i<n+1 by omega) (show j+(n+1)<(dl B9 x).length+1 by omega) (c:= -1) rfl
      refine wk3 (λhq=>?_) (λhq=>?_) λhq=>?_;all_goals(try rw[hO])
      all_goals(try rw[E1])
      all_goals(try rw[E2])
      all_goals first
       |omega
       |(rw[eij,hst]
         refine⟨i+1,[],⟨qqO,qqO⟩,?_⟩;rw[show((i+1:Nat):Int)=(i:Int)+1 by omega]
         exact wk0;all_goals skip)
   ·obtain⟨p,xx,t,ep,et,ex,p0,p1,t0,t1,x0,x1,b0,b1,hneg,hpos⟩:=aeK (T:=T) (V:=V) (i:=i) (show g<B9 from g3)
    have hdig:=YJ B92 hE (show i<n+1 by omega)
    have eij:((i:Int)+(j:Int)).toNat=j+i:=qqO;have eO:(sg B9 ((dl B9 x).length+1) j i E Z).getD (((i:Int)+(j:Int)).toNat) 0=t:=by
     rw[eij,pJ _ _ _ _ _ _ _ qqO,if_neg qqO,anI,<-ant,hT,et]
    have eX:(sg B9 ((dl B9 x).length+1) j i E Z).getD (((i:Int)+(j:Int)).toNat) 0-((g:Int)*(dl B9 V).getD i 0+cb B9 g T V i).tmod 1000000000=xx:=by rw[eO,ep,ex]
    have hvv:=nV V i;have hgv:0≤(g:Int)*(dl B9 V).getD i 0:=apm qqO hvv.1;by_cases hx0:xx<0
    ·obtain⟨d1,d2⟩:=hneg hx0
     have hst:=mJ (B:=B9) (n:=(dl B9 x).length+1) (j:=j) (i:=i) (d:=E) (z:=Z) qqO (x:=xx+1000000000) (by rw[hdig,d1];rfl)
     refine wk5 (λhq=>?_) (λhq=>?_) (λhq hq=>?_) (λhq hq=>?_) λhq hq=>?_;all_goals(try rw[eX])
     all_goals(try rw[ep])
     all_goals first
      |omega
      |(rw[eij,hst,d2]
        refine⟨i+1,[],⟨qqO,qqO⟩,?_⟩;rw[show((i+1:Nat):Int)=(i:Int)+1 by omega]
        exact wk0;all_goals skip)
    ·obtain⟨d1,d2⟩:=hpos hx0
     have hst:=mJ (B:=B9) (n:=(dl B9 x).length+1) (j:=j) (i:=i) (d:=E) (z:=Z) qqO (x:=xx) (by rw[hdig,d1];rfl)
     refine wk3 (λhq=>?_) (λhq=>?_) λhq hq=>?_;all_goals(try rw[eX])
     all_goals(try rw[ep])
     all_goals first
      |omega
      |(rw[eij,hst,d2]
        refine⟨i+1,[],⟨qqO,qqO⟩,?_⟩;rw[show((i+1:Nat):Int)=(i:Int)+1 by omega]
        exact wk0;all_goals skip)
 ·have happ:aoz (k-0) (aoA 0 (dn B9 k X))++[0]=dn B9 (k+1) X:=by
   rw[fV _ _ hmk.symm];exact CO (by rw[hX0 k hk1];rfl)
  refine wk1 λhq=>?_;all_goals
   rw[happ];refine⟨k+1,[(16,14)],⟨⟨qqO,qqO⟩,qqO⟩,?_⟩;exact wk0;all_goals skip
def Ri:PSp:=λxs K=>match xs with
 | [.isl (.ints .i64 l) .none,.isl (.ints .i64 m) .none]=>VC (D9 l/\D9 m/\l.length≤400000000/\m.length≤400000000/\m≠[])/\K (.tup [.isl (zd9 (v9 l / v9 m)) .none,.isl (zd9 (v9 l % v9 m)) .none])
 |_=>False
theorem Vi:POK Tryz.prog 199 Ri:=by
 intro xs K hk;unfold Ri at hk;split at hk
 ·obtain⟨h1,h2,h3,h4,h5⟩:=hk.1.get
  rename_i l m;obtain⟨x,rfl⟩:=fq h1;obtain⟨y,rfl⟩:=fq h2;refine⟨_,hk.2,?_⟩;rw[dR,dR];have hy0:y≠0:=λh=>h5 ((fD B92).2 h);by_cases hlt:x<y
  ·exact ahE x y h3 h4 hlt
  ·by_cases h1:y<B9
   ·have e:=jQ B92 hy0 h1
    unfold zd9;rw[e];exact aeJ x y h3 hy0 h1 qqO
   ·refine aeL x y h3 h4 ?_ qqO
    have:=lQ B92 (x:=y) (k:=1) (by rw[Nat.pow_one];omega)
    omega
 ·exact hk.elim
end Go.Eng.YtmkagljofpddpaaGreatDoor
namespace Go.Eng.YtmkagljofpddpaaGreatDoor
open Go.Proofs Go.Eng.Dig Go.Eng.Dec
set_option linter.unusedSimpArgs false
set_option linter.unusedVariables false
set_option maxHeartbeats 0
set_option maxRecDepth 100000
abbrev zv (z:Int):PV:=.agg [.bp (decide (z<0)),.isl (zd9 z.natAbs) .none]
def L9 (x:Nat):Nat:=(dl B9 x).length
theorem CQ {x k:Nat} (h:x<B9 ^ k):L9 x≤k:=fG B92 h
theorem Rj (x:Nat):x<B9 ^ L9 x:=bU B92 x
theorem pR {x y:Nat} (h:x≤y):L9 x≤L9 y:=CQ (an4 h (Rj y))
theorem pU (x:Nat):trm (dl B9 x)=dl B9 x:=by
 have:=jk B92 (bU B92 x);rw[<-Gu B92 x]at this;exact this
theorem akr {b c:Bool} {L:CL} (h:b=c):Sup (.agg [.bool b,.isl L .none]) (.agg [.bp c,.isl L .none]):=⟨λhr=>by
 subst h;cases hr with
 |agg _ _ vs hl hh=>
  refine .agg _ _ _ hl λi hi=>?_
  match i,hi with
  |0,_=>have:=hh 0 (show 0<2 by decide);simp only[aG]at this⊢;generalize vs.getD 0 undef=u at this;cases this;exact .bp _ _
  |1,_=>exact hh 1 (show 1<2 by decide)⟩
def sgz (b:Bool) (x:Nat):Int:=if b then-(x:Int)else x
theorem jX (b:Bool) (x:Nat):(sgz b x).natAbs=x:=by unfold sgz;split<;>omega
theorem aeM (b:Bool) (x:Nat):decide (sgz b x<0)=(b&&decide (x≠0)):=by
 unfold sgz;cases b
 ·rw[if_neg qqS,apn]
  exact decide_eq_false qqO
 ·rw[if_pos rfl,apo,decide_eq_decide]
  omega
noncomputable def aje:CPT:=ay 241 (aJ sG) noC
theorem YM:aZ Tryz.prog aje:=aj (aA uX) aC
theorem Vj (b:Bool) (l:List Int) (x:Nat) (hl:l.length≤1000000000000) (h:trm l=dl B9 x):aB Tryz.prog 204 [.bp b,.isl (.ints .i64 l) .none] (zv (sgz b x)):=by
 have hz:zv (sgz b x)=.agg [.bp (b&&decide (x≠0)),.isl (zd9 x) .none]:=by unfold zv;rw[jX,aeM]
 have hlen:(dl B9 x).length=0↔x=0:=by rw[amT];exact fD B92
 rw[hz];refine au (md:=1) (rf:=[]) mixed ak YM Tryz.func204 qqR qqR qqR ?_
 repeat'((conv=>whnf);first|(intro hq;(try simp only[vw]at hq);try exact aV hq)|apply aI|exact aD|apply nM|apply fM)
 all_goals((try apply vM);(try simp only[vq]at*);try omega)
 all_goals(try rw[h])
 all_goals first
  |omega
  |(rw[hq,apo,show decide (x≠0)=decide (0<((dl B9 x).length:Int)) by rw[decide_eq_decide];omega];exact Sup.of rfl)
  |(rw[hq,apn];exact akr rfl)
def CS:PSp:=λxs K=>match xs with
 | [.bp b,.isl (.ints .i64 l) .none]=>VC (l.length≤1000000000000/\D9 (trm l))/\K (zv (sgz b (v9 (trm l))))
 |_=>False
theorem Ep:POK Tryz.prog 204 CS:=by
 intro xs K hk;unfold CS at hk;split at hk
 ·obtain⟨h1,h2⟩:=hk.1.get
  rename_i b l;obtain⟨x,hx⟩:=fq h2;refine⟨_,hk.2,?_⟩;rw[hx,dR];exact Vj b l x h1 hx
 ·exact hk.elim
def z1 (p:PV) (K:Int->Prop):Prop:=match p with
 |.agg [.bp b,.isl (.ints .i64 l) .none]=>VC (D9 l/\b=decide (sgz b (v9 l)<0))/\K (sgz b (v9 l))
 |_=>False
theorem JL {p:PV} {K:Int->Prop} (h:z1 p K):∃z,K z/\p=zv z:=by
 unfold z1 at h;split at h
 ·obtain⟨⟨h1,h2⟩,h3⟩:=h
  rename_i b l;refine⟨_,h3,?_⟩;obtain⟨x,rfl⟩:=fq h1;unfold zv;rw[<-h2,jX,dR]
 ·exact h.elim
theorem ahF {g:FuncId} {C:Int->Prop} {r:Int->PV} (h:∀a,C a->aB Tryz.prog g [zv a] (r a)):POK Tryz.prog g (λxs K=>match xs with| [p]=>z1 p λa=>VC (C a)/\K (r a)|_=>False):=by
 intro xs K hk;split at hk
 ·obtain⟨a,⟨h1,h2⟩,rfl⟩:=JL hk
  exact⟨_,h2,h a h1.get⟩
 ·exact hk.elim
theorem aks {g:FuncId} {C:Int->Int->Prop} {r:Int->Int->PV} (h:∀a b,C a b->aB Tryz.prog g [zv a,zv b] (r a b)):POK Tryz.prog g (λxs K=>match xs with| [p,q]=>z1 p λa=>z1 q λb=>VC (C a b)/\K (r a b)|_=>False):=by
 intro xs K hk;split at hk
 ·obtain⟨a,hk',rfl⟩:=JL hk
  obtain⟨b,⟨h1,h2⟩,rfl⟩:=JL (K:=λb=>VC (C a b)/\K (r a b)) hk';exact⟨_,h2,h a b h1.get⟩
 ·exact hk.elim
theorem uY (z:Int):sgz (decide (z<0)) (v9 (dl B9 z.natAbs))=z:=by
 rw[dR];unfold sgz;by_cases h:z<0
 ·rw[decide_eq_true h,if_pos rfl];omega
 ·rw[decide_eq_false h,if_neg qqS];omega
theorem GH (z:Int):D9 (dl B9 z.natAbs)/\decide (z<0)=decide (sgz (decide (z<0)) (v9 (dl B9 z.natAbs))<0):=⟨dK _,by rw[uY]⟩
noncomputable def akt:CPT:=ay 204 (aJ CS) (ay 206 (aJ Rb) (ay 207 (aJ GA) (ay 208 (aJ Rf) (ay 209 (aJ GD) noC))))
theorem aeN:aZ Tryz.prog akt:=aj (aA Ep) (aj (aA aeD) (aj (aA NC) (aj (aA aeE) (aj (aA ND) aC))))
theorem Rk (a:Int) (hLa:L9 a.natAbs≤400000000):aB Tryz.prog 203 [zv a] (zv (-a)):=by
 have l1:(dl B9 a.natAbs).length≤400000000:=hLa;have e1:sgz (!decide (a<0)) a.natAbs= -a:=by
  unfold sgz;by_cases h1:a<0
  ·rw[decide_eq_true h1,if_neg qqS];omega
  ·rw[decide_eq_false h1,if_pos qqS];omega
 refine au (md:=1) (rf:=[]) mixed ak aeN Tryz.func203 qqR qqR qqR ?_;refine wk2 ?_ ?_;all_goals(try simp only[dR,pU])
 all_goals first
  |exact⟨qqO,dK _⟩
  |(rw[e1];exact Sup.of rfl)
def Vk:PSp:=λxs K=>match xs with| [p]=>z1 p λa=>VC (L9 a.natAbs≤400000000)/\K (zv (-a))|_=>False
theorem YN:POK Tryz.prog 203 Vk:=ahF (C:=λa=>L9 a.natAbs≤400000000) (r:=λa=>zv (-a)) λa h=>Rk a h
noncomputable def aku:CPT:=ay 199 (aJ Ri) noC
theorem NG:aZ Tryz.prog aku:=aj (aA Vi) aC
theorem YO (x y:Nat) (hx:L9 x≤400000000) (hy:L9 y≤400000000):aB Tryz.prog 126 [.isl (zd9 x) .none,.isl (zd9 y) .none] (.isl (zd9 (aoF x y)) .none):=by
 refine au (md:=1) (rf:=[]) mixed ak NG Tryz.func126 qqR qqR qqR ?_;refine wk1 ?_;conv=>whnf
 refine aR (X:=Nat × Nat) (λp=>L9 p.1≤400000000/\L9 p.2≤400000000/\aoF p.1 p.2=aoF x y) (λp=>[(0,.isl (zd9 p.1) .none),(1,.isl (zd9 p.2) .none),(5,.any),(6,.any),(10,.any),(13,.any)]) (λp=>[]) (λp=>p.2) (x,y) ⟨aH,mixed,ak,NG,aN⟩ qqR ⟨hx,hy,rfl⟩ ?_ ?_
 ·exact wk0
  all_goals skip
 intro⟨a,b⟩ ⟨h1,h2,h3⟩;simp only at h1 h2 h3;have hb0:(dl B9 b).length=0↔b=0:=by rw[amT];exact fD B92
 have l1:(dl B9 a).length≤400000000:=h1;have l2:(dl B9 b).length≤400000000:=h2;by_cases hb:b=0
 ·subst hb
  rw[apq]at h3;have:=hb0.2 rfl;rw[<-h3];refine wk1 λhq=>?_;all_goals exact Sup.of rfl
 ·have hbl:(dl B9 b).length≠0:=λh=>hb (hb0.1 h)
  have hbn:dl B9 b≠[]:=λh=>hb ((fD B92).1 h);refine wk2 (λhq=>?_) λhq=>?_;all_goals(try simp only[dR])
  all_goals first
   |exact⟨dK _,dK _,qqO,qqO,hbn⟩
   |(refine⟨(b,a % b),[],⟨⟨h2,als (pR (aoE _ _)) h1,?_⟩,al8 _ qqO⟩,?_⟩
     ·simp only
      rw[<-h3,aoG b,<-apr,aoG]
     exact wk0;all_goals skip)
def YQ:PSp:=λxs K=>match xs with
 | [.isl (.ints .i64 l) .none,.isl (.ints .i64 m) .none]=>VC (D9 l/\D9 m/\L9 (v9 l)≤400000000/\L9 (v9 m)≤400000000)/\K (.isl (zd9 (aoF (v9 l) (v9 m))) .none)
 |_=>False
theorem ahG:POK Tryz.prog 126 YQ:=by
 intro xs K hk;unfold YQ at hk;split at hk
 ·obtain⟨h1,h2,h3,h4⟩:=hk.1.get
  rename_i l m;obtain⟨x,rfl⟩:=fq h1;obtain⟨y,rfl⟩:=fq h2;refine⟨_,hk.2,?_⟩;rw[dR,dR]at*;exact YO x y h3 h4
 ·exact hk.elim
theorem FD (x y:Nat) (hx:x≤9223372036854775807) (hy:y≤9223372036854775807):aB Tryz.prog 139 [.int .i64 x,.int .i64 y] (.int .i64 (aoF x y:Nat)):=by
 refine au (md:=1) (rf:=[]) mixed ak aC Tryz.func139 qqR qqR qqR ?_;refine wk1 ?_;conv=>whnf
 refine aR (X:=Nat × Nat) (λp=>p.1≤9223372036854775807/\p.2≤9223372036854775807/\aoF p.1 p.2=aoF x y) (λp=>[(0,.int .i64 p.1),(1,.int .i64 p.2)]) (λp=>[]) (λp=>p.2) (x,y) ⟨aH,mixed,ak,aC,aN⟩ qqR ⟨hx,hy,rfl⟩ ?_ ?_
 ·exact wk0
  all_goals skip
 intro⟨a,b⟩ ⟨h1,h2,h3⟩;simp only at h1 h2 h3;by_cases hb:b=0
 ·subst hb
  rw[apq]at h3;rw[<-h3];refine wk1 λhq=>?_;all_goals exact Sup.of rfl
 ·have hm:(a:Int).tmod (b:Int)=((a % b:Nat):Int):=by rw[tmd qqO,anP]
  have hml:=al8 a (show b>0 by omega)
  refine wk1 λhq=>?_;all_goals(try rw[hm])
  all_goals first
   |omega
   |(refine⟨(b,a % b),[],⟨⟨h2,by simp only;omega,?_⟩,hml⟩,?_⟩
     ·simp only
      rw[<-h3,aoG b,<-apr,aoG]
     exact wk0;all_goals skip)
def Rl:PSp:=λxs K=>match xs with
 | [.int .i64 a,.int .i64 b]=>VC (0≤a/\a≤9223372036854775807/\0≤b/\b≤9223372036854775807)/\K (.int .i64 (aoF a.toNat b.toNat:Nat))
 |_=>False
theorem aeO:POK Tryz.prog 139 Rl:=by
 intro xs K hk;unfold Rl at hk;split at hk
 ·obtain⟨h1,h2,h3,h4⟩:=hk.1.get
  rename_i a b;obtain⟨x,rfl⟩:=an2 h1;obtain⟨y,rfl⟩:=an2 h3;exact⟨_,hk.2,FD x y qqO qqO⟩
 ·exact hk.elim
abbrev ahH:ByteArray:=⟨#[48,49,50,51,52,53,54,55,56,57]⟩
theorem aeP:∀d:Nat,d<10->ahH.extract d (d+1)=⟨#[UInt8.ofNat (48+d)]⟩:=qqD
theorem Vl:∀(k n:Nat),iM (k+1) n=dgc (n / 10 ^ k % 10)::iM k n:=by
 intro k;induction k with
 |zero=>intro n;simp[iM]
 |succ k ih=>
  intro n;rw[iM,ih (n / 10),ant,alP 10,<-anu];rfl
def qE (k n:Nat):ByteArray:=⟨(iM k n).toArray⟩
theorem FE (k n:Nat):(qE k n).size=k:=by
 show(aoM _).size=_;rw[aoN,zX]
theorem Vm (k n:Nat):(⟨#[UInt8.ofNat (48+n / 10 ^ k % 10)]⟩:ByteArray)++qE k n=qE (k+1) n:=by
 unfold qE;rw[Vl];apply ByteArray.ext;simp
def dcB (n least:Nat):ByteArray:=if n<10 ^ least then qE least n else bF n
theorem JM {k n:Nat} (h1:n<10 ^ (k+1)) (h2:10 ^ k≤n∨k=0):qE (k+1) n=bF n:=by
 unfold qE bF;rw[Nf k n h1];have hl:(Go.Lib.decDigits n).length=k+1:=by
  have h3:=mK k n h1;rcases h2 with h2|rfl
  ·refine apa h3 (aom λhlt=>?_)
   have h4:=Gy (sF n);rw[Uy]at h4;have:10 ^ (Go.Lib.decDigits n).length≤10 ^ k:=anL qqO qqO;omega
  ·have:=jW n;omega
 rw[hl];simp
theorem Vn (n:Nat):dcB n 1=bF n:=by
 unfold dcB;split
 ·rename_i h
  exact JM (k:=0) h (.inr rfl)
 ·rfl
theorem JN (n least:Nat) (hn:n≤9223372036854775807) (hl:1≤least/\least≤1000):aB Tryz.prog 140 [.int .i64 n,.int .i64 least] (.str (dcB n least)):=by
 have hbig:n<10 ^ 19:=an4 hn qqD;refine au (md:=1) (rf:=[]) mixed ak aC Tryz.func140 qqR qqR qqR ?_;refine wk1 ?_;conv=>whnf
 refine aR (X:=Nat) (λk=>k≤max 19 least/\(k≤least∨10 ^ (k-1)≤n)) (λk=>[(0,.int .i64 (n / 10 ^ k:Nat)),(5,.str (qE k n))]) (λk=>[]) (λk=>max 19 least-k) 0 ⟨aH,mixed,ak,aC,aN⟩ qqR ⟨qqO,.inl qqO⟩ ?_ ?_
 ·repeat'((conv=>whnf);first|intro _|apply aI|exact aD|apply nM|apply fM)
  all_goals((try apply vM);(try simp only[vq]at*);try omega)
  all_goals first|(rw[aod,amb])|rfl
 intro k ⟨hk,hk2⟩;have hz:=FE k n;have hp:0<10 ^ k:=anx qqO;have hdl:n / 10 ^ k≤n:=aon _ _;have hcons:=Vm k n;have hy1:n / 10 ^ (k+1)=n / 10 ^ k / 10:=by rw[anu,<-ant]
 have hgo1:0<n / 10 ^ k->10 ^ k≤n:=λh=>by
  have:=(al9 hp).1 h;omega
 have hgo2:¬0<n / 10 ^ k->n<10 ^ k:=λh=>(aob hp).1 (Nat.eq_zero_of_not_pos h);have h19:10 ^ k≤n->k<19:=λh=>ape λhle=>by
  have h2:10 ^ 19≤10 ^ k:=anL qqO hle;omega
 have hns:qE k n++ByteArray.empty=qE k n:=ByteArray.append_empty;have hz1:=FE (k+1) n;generalize hy:n / 10 ^ k=y at*
 have hM:(y:Int).tmod 10=((y % 10:Nat):Int):=by rw[tmd qqO];omega
 have hD:(y:Int).tdiv 10=((y / 10:Nat):Int):=by rw[tdv qqO];omega
 have hex:=aeP (y % 10) (al8 _ qqO);have e10:(((y % 10:Nat):Int)+1).toNat=y % 10+1:=qqO;have hsd:(ahH:ByteArray).size=10:=rfl;have hs1:(⟨#[UInt8.ofNat (48+y % 10)]⟩:ByteArray).size=1:=rfl;have hdl':y / 10≤y:=aon _ _;by_cases hgo:0<y∨k<least
 ·have hk19:k<max 19 least:=by
   rcases hgo with hgo|hgo
   ·have:=h19 (hgo1 hgo);omega
   ·omega
  have hnext:k+1≤least∨10 ^ (k+1-1)≤n:=by
   rcases hgo with hgo|hgo
   ·right
    rw[Nat.add_sub_cancel];exact hgo1 hgo
   ·left;omega
  have hst:(n / 10 ^ (k+1):Nat)=y / 10:=hy1
  repeat'((conv=>whnf);first|(intro hq;(try simp only[vw]at hq);try exact aV hq)|apply aI|exact aD|apply nM|apply fM)
  all_goals((try apply vM);(try simp only[vq]at*);try omega)
  all_goals(try simp only[hM,hD,anG,e10,hex,hs1,hcons])
  all_goals first
   |omega
   |(show _≤((10:Nat):Int);omega)
   |(refine⟨k+1,[],⟨⟨qqO,hnext⟩,qqO⟩,?_⟩
     rw[hst];all_goals exact iG)
 ·have hnk:n<10 ^ k:=hgo2 qqO
  have hfin:qE k n=dcB n least:=by
   unfold dcB;by_cases hkl:k=least
   ·subst hkl;rw[if_pos hnk]
   ·have h1:10 ^ (k-1)≤n:=hk2.resolve_left qqO
    have h2:10 ^ least≤10 ^ (k-1):=anL qqO qqO;rw[if_neg qqO];obtain⟨m,rfl⟩:∃m,k=m+1:=⟨k-1,qqO⟩;exact JM hnk (.inl h1)
  repeat'((conv=>whnf);first|(intro hq;(try simp only[vw]at hq);try exact aV hq)|apply aI|exact aD|apply nM|apply fM)
  all_goals((try apply vM);(try simp only[vq]at*);try omega)
  all_goals first
   |omega
   |(rw[hfin];exact Sup.of rfl)
def CU:PSp:=λxs K=>match xs with
 | [.int .i64 n,.int .i64 l]=>VC (0≤n/\n≤9223372036854775807/\1≤l/\l≤1000)/\K (.str (dcB n.toNat l.toNat))
 |_=>False
theorem JO:POK Tryz.prog 140 CU:=by
 intro xs K hk;unfold CU at hk;split at hk
 ·obtain⟨h1,h2,h3,h4⟩:=hk.1.get
  rename_i n l;obtain⟨x,rfl⟩:=an2 h1;obtain⟨y,rfl⟩:=an2 (show 0≤l by omega)
  exact⟨_,hk.2,JN x y qqO ⟨qqO,qqO⟩⟩
 ·exact hk.elim
theorem dc9 {n:Nat} (h:n<1000000000):dcB n 9=⟨(iM 9 n).toArray⟩:=by unfold dcB;rw[if_pos h];rfl
theorem aeQ {x k:Nat} (h:x / B9 ^ (k+1)≠0):bF (x / B9 ^ (k+1))++dcB (x / B9 ^ k % B9) 9=bF (x / B9 ^ k):=by
 rw[dc9 (al8 _ qqD)];unfold bF;rw[wZ,oQ]at*;have hm:=al7 (x / B9 ^ k) B9;rw[alP]at hm;have h2:=wW (a:=x / B9 ^ k / B9) (al5 h) 9 (x / B9 ^ k % B9) (al8 _ qqD);rw[<-h2];show(⟨(Go.Lib.decDigits (x / B9 ^ k / B9*B9+x / B9 ^ k % B9)).toArray⟩:ByteArray)=_;rw[hm]
theorem yM (x:Nat):(bF x).size≤9*L9 x+1:=by
 rw[kE];have h1:=Rj x;have h2:B9 ^ L9 x=10 ^ (9*L9 x):=by rw[aoO]
 have h3:10 ^ (9*L9 x)≤10 ^ (9*L9 x+1):=anL qqO qqO;have:=mK (9*L9 x) x qqO;omega
noncomputable def ajf:CPT:=ay 140 (aJ CU) noC
theorem Ac:aZ Tryz.prog ajf:=aj (aA JO) aC
theorem Rm (z:Int) (hL:L9 z.natAbs≤400000000):aB Tryz.prog 165 [zv z] (.str (itB z)):=by
 have hz0:(dl B9 z.natAbs).length=0↔z.natAbs=0:=by rw[amT];exact fD B92
 have hsg:itB z=sgB z++bF z.natAbs:=gX z;have hL':(dl B9 z.natAbs).length≤400000000:=hL;by_cases h0:z.natAbs=0
 ·have:z=0:=qqO
  subst this;have e:itB 0=kZe:=by unfold itB;rw[ad7 qqO];show(⟨(Go.Lib.decDigits 0).toArray⟩:ByteArray)=_;rw[dec_lt qqO];rfl
  rw[e];have:=hz0.2 h0;refine au (md:=1) (rf:=[]) mixed ak Ac Tryz.func165 qqR qqR qqR ?_;refine wk1 λhq=>?_;all_goals exact Sup.of rfl
 have hb:=nV z.natAbs;have hgd:=bG B92 z.natAbs;have htop:∀k,(dl B9 z.natAbs).length=k+1->z.natAbs / B9 ^ k≠0/\z.natAbs / B9 ^ k % B9=z.natAbs / B9 ^ k:=λk hk=>by
  have h1:=jI B92 z.natAbs k hk;have h2:=bU B92 z.natAbs;rw[hk,anu,alP]at h2;refine⟨λh=>?_,alT ((al6 (pw B92 k)).2 h2)⟩;have:=(aob (pw B92 k)).1 h;omega
 have hne:∀k,k<(dl B9 z.natAbs).length->z.natAbs / B9 ^ k≠0:=λk hk h=>by
  obtain⟨m,hm⟩:∃m,(dl B9 z.natAbs).length=m+1:=⟨(dl B9 z.natAbs).length-1,qqO⟩;have h1:=jI B92 z.natAbs m hm;have h2:=(aob (pw B92 k)).1 h;have:B9 ^ k≤B9 ^ m:=anL qqD qqO;omega
 have hsz:∀k,(bF (z.natAbs / B9 ^ k)).size≤3700000000:=λk=>by
  have h1:=yM (z.natAbs / B9 ^ k);have h2:L9 (z.natAbs / B9 ^ k)≤L9 z.natAbs:=pR (aon _ _);omega
 have hs9:∀d:Nat,d<1000000000->(dcB d 9).size=9:=λd hd=>by rw[dc9 hd];show(aoM _).size=_;rw[aoN,zX]
 have hstep:= @aeQ z.natAbs;have hzd:bF (z.natAbs / B9 ^ 0)=bF z.natAbs:=by rw[aod,amb]
 obtain⟨n,hn⟩:∃n,(dl B9 z.natAbs).length=n+1:=⟨(dl B9 z.natAbs).length-1,qqO⟩;have et:((((dl B9 z.natAbs).length:Nat):Int)-1).toNat=n:=qqO;obtain⟨ht1,ht2⟩:=htop n hn;have h1n:=hb n;have hgn:(dl B9 z.natAbs).getD n 0=((z.natAbs / B9 ^ n:Nat):Int):=by rw[hgd,ht2]
 have hkm:(kMi:ByteArray).size=1:=rfl;refine au (md:=1) (rf:=[]) mixed ak Ac Tryz.func165 qqR qqR qqR ?_;refine wk2 (λhq=>?_) λhq=>?_;all_goals(try simp only[et,hgn,anG,show an8 1=1 from rfl,Vn])
 all_goals(try rw[hgn]at h1n)
 all_goals first
  |omega
  |(refine⟨qqO,qqO,qqO,qqO⟩)
  |skip
 conv=>whnf
 refine aR (X:=Nat) (λk=>k≤n) (λk=>[(4,.int .i64 ((k:Int)-1)),(3,.str (bF (z.natAbs / B9 ^ k)))]) (λk=>[]) (λk=>k) n ⟨aH,mixed,ak,Ac,aN⟩ qqR (alo _) ?_ ?_
 ·all_goals exact iG
 intro k hk;have hszk:=hsz k;have hszn:=hsz 0;rw[hzd]at hszn;have hlt:k≤400000000:=qqO;have hex:itB z=(if z<0 then kMi++bF z.natAbs else bF z.natAbs):=by
  rw[hsg];unfold sgB;by_cases h:z<0
  ·rw[if_pos h,if_pos h]
  ·rw[if_neg h,if_neg h,ByteArray.empty_append]
 rcases k with _|k
 ·rw[hzd]at hszk
  by_cases hz:z<0
  ·rw[if_pos hz]at hex
   rw[hex];all_goals exact I8
  ·rw[if_neg hz]at hex
   rw[hex];all_goals exact I8
 have hgk:(dl B9 z.natAbs).getD k 0=((z.natAbs / B9 ^ k % B9:Nat):Int):=hgd k;have ek:((((k+1:Nat):Int)-1)).toNat=k:=qqO;have hs9k:=hs9 (z.natAbs / B9 ^ k % B9) (al8 _ qqD);have hstk:=hstep (k:=k) (hne (k+1) qqO);have hdb:=hb k;clear hstep hs9 hsz hne htop hb hgd h1n hgn ht1 ht2;rw[hgk]at hdb;have hsz2:(bF (z.natAbs / B9 ^ (k+1))).size≤3700000000:=hszk;refine wk3 (λhq=>?_) (λhq=>?_) λhq=>?_;all_goals(try simp only[ek,hgk,anG,show an8 9=9 from rfl,hs9k,hstk])
 all_goals first
  |omega
  |(refine⟨qqO,qqO,qqO,qqO⟩)
  |(refine⟨k,[],⟨qqO,qqO⟩,?_⟩
    exact wk0;all_goals(try simp only[ek,hgk,anG,show an8 9=9 from rfl,hs9k,hstk])
    all_goals(try(refine congrArg (aoy:Nat->Int) ?_))
    all_goals first|rfl|omega)
def Vo:PSp:=λxs K=>match xs with| [p]=>z1 p λa=>VC (L9 a.natAbs≤400000000)/\K (.str (itB a))|_=>False
theorem YR:POK Tryz.prog 165 Vo:=ahF (C:=λa=>L9 a.natAbs≤400000000) (r:=λa=>.str (itB a)) λa h=>Rm a h
theorem GI (s:ByteArray) (i:Nat):s.data.getD i 0=s.data.toList.getD i 0:=by
 simp[alz,alC]
def slP (l:List UInt8):Nat:=l.findIdx (·==47)
theorem Ro (s:ByteArray) (hs:s.size≤1099511627776):aB Tryz.prog 123 [.str s] (.int .i64 (slP s.data.toList:Nat)):=by
 have hsz:s.size=s.data.toList.length:=by rw[alY];rfl
 have hle:slP s.data.toList≤s.size:=by rw[hsz];exact List.findIdx_le_length
 have hby:=GI s;have hat:∀i,i<s.size->i≤slP s.data.toList->(((s.data.toList.getD i 0).toNat:Int)=47↔slP s.data.toList=i):=λi hi h=>by
  unfold slP at*;have hg:s.data.toList.getD i 0=s.data.toList[i]'qqO:=by rw[alC,List.getElem?_eq_getElem qqO];rfl
  rw[hg];constructor
  ·intro e
   refine apa ?_ h;refine aom λhlt=>?_;have:=List.not_of_lt_findIdx hlt;rw[beq_eq_false_iff_ne]at this;exact this (UInt8.toNat_inj.1 (by show _=47;omega))
  ·intro e
   have h2:s.data.toList.findIdx (·==47)<s.data.toList.length:=qqO;have:=eq_of_beq (List.findIdx_getElem (w:=h2));subst e;rw[this];rfl
 generalize slP s.data.toList=p at*
 refine au (md:=1) (rf:=[]) mixed ak aC Tryz.func123 qqR qqR qqR ?_;refine wk1 ?_;conv=>whnf
 refine aR (X:=Nat) (λi=>i≤s.size/\i≤p) (λi=>[(3,.int .i64 i)]) (λi=>[]) (λi=>s.size-i) 0 ⟨aH,mixed,ak,aC,aN⟩ qqR qqO ?_ ?_
 ·exact wk0
  all_goals skip
 intro i ⟨hi,hip⟩;by_cases hlt:i<s.size
 ·have h1:=hat i hlt hip
  rw[<-hby i]at h1;clear hby hat;by_cases h:p=i
  ·subst h
   have h1':((s.data.getD p 0).toNat:Int)=47:=h1.2 rfl;refine wk1 λhq hq=>?_;all_goals first
    |omega
    |exact Sup.of rfl
  ·have h1':¬((s.data.getD i 0).toNat:Int)=47:=λe=>h (h1.1 e)
   refine wk1 λhq hq=>?_;all_goals first
    |omega
    |(refine⟨i+1,[],⟨qqO,qqO⟩,?_⟩
      exact wk0;all_goals skip)
 ·have:i=s.size:=qqO
  have e:p=s.size:=qqO;subst e;refine wk1 λhq=>?_;all_goals first|exact Sup.of rfl
def JQ:PSp:=λxs K=>match xs with
 | [.str s]=>VC (s.size≤1099511627776)/\K (.int .i64 (slP s.data.toList:Nat))
 |_=>False
theorem YS:POK Tryz.prog 123 JQ:=by
 intro xs K h;unfold JQ at h;split at h
 ·exact⟨_,h.2,Ro _ h.1.get⟩
 ·exact h.elim
theorem ixb (l:List UInt8):Go.Lib.indexByte l 47=if slP l<l.length then(slP l:Int)else-1:=by
 unfold slP;induction l with
 |nil=>rfl
 |cons b r ih=>
  unfold Go.Lib.indexByte;rw[List.findIdx_cons];by_cases h:b=47
  ·subst h;simp
  ·have h1:(b==47)=false:=beq_eq_false_iff_ne.2 h
   rw[h1,ih];simp only[amn,if_false,cond_false,alj];by_cases h2:r.findIdx (·==47)<r.length
   ·have h3:r.findIdx (·==47)+1<r.length+1:=qqO
    have:((r.findIdx (·==47):Int)== -1)=false:=beq_eq_false_iff_ne.2 qqO;simp only[if_pos h2,if_pos h3,this,amn,if_false];omega
   ·have h3:¬r.findIdx (·==47)+1<r.length+1:=qqO
    simp only[if_neg h2,if_neg h3];rfl
def YT:PSp:=λxs K=>match xs with
 | [.str s,.str t]=>VC (t=⟨#[47]⟩)/\K (.int .i64 (if slP s.data.toList<s.data.toList.length then(slP s.data.toList:Int)else-1))
 |_=>False
theorem ahI:POK Tryz.prog 249 YT:=by
 intro xs K hk;unfold YT at hk;split at hk
 ·obtain⟨h,hK⟩:=hk
  rw[h.get,<-ixb]at*;exact⟨_,hK,Yl _ _⟩
 ·exact hk.elim
def nH (s:ByteArray):ByteArray:=if slP s.data.toList<s.size then s.extract 0 (slP s.data.toList)else s
def nI (s:ByteArray):ByteArray:=if slP s.data.toList<s.size then s.extract (slP s.data.toList+1) s.size else⟨#[]⟩
def rH (s:ByteArray):Bool:=decide (slP s.data.toList<s.size)
noncomputable def akv:CPT:=ay 249 (aJ YT) noC
theorem NH:aZ Tryz.prog akv:=aj (aA ahI) aC
theorem ahJ (a b:ByteArray) (c:Bool):Sup (dJ [PV.str a,.str b,.bool c]) (.tup [.str a,.str b,.bp c]):=by all_goals(refine Sup.via ?_;repeat'((conv=>whnf);first|intro _|apply aI|exact aD|apply nM|apply fM);all_goals((try apply vM);(try simp only[vq]at*);try omega);all_goals(try(simp[CL.sub];done)))
theorem Vp (s:ByteArray) (hs:s.size≤1099511627776):aB Tryz.prog 223 [.str s,.str ⟨#[47]⟩] (.tup [.str (nH s),.str (nI s),.bp (rH s)]):=by
 have hsz:s.data.toList.length=s.size:=by rw[alY];rfl
 unfold nH nI rH;by_cases h:slP s.data.toList<s.size
 ·rw[if_pos h,if_pos h,decide_eq_true h]
  have hI:(if slP s.data.toList<s.data.toList.length then(slP s.data.toList:Int)else-1)=(slP s.data.toList:Int):=if_pos qqO;have h1:((⟨#[47]⟩:ByteArray).size:Int)=1:=rfl;have h2:((slP s.data.toList:Int)+1).toNat=slP s.data.toList+1:=qqO;refine au (md:=1) (rf:=[]) mixed ak NH Tryz.func223 qqR qqR qqR ?_;refine wk1 λhq=>?_;all_goals(try simp only[hI,h1,h2,anG])
  all_goals first|omega|exact ahJ _ _ _
 ·rw[if_neg h,if_neg h,decide_eq_false h]
  refine au (md:=1) (rf:=[]) mixed ak NH Tryz.func223 qqR qqR qqR ?_;refine wk1 λhq=>?_;all_goals first|exact ahJ _ _ _|(exfalso;rw[if_neg qqO]at*;omega)
def Rp:PSp:=λxs K=>match xs with
 | [.str s,.str t]=>VC (t=⟨#[47]⟩/\s.size≤1099511627776)/\K (.tup [.str (nH s),.str (nI s),.bp (rH s)])
 |_=>False
theorem aeR:POK Tryz.prog 223 Rp:=by
 intro xs K hk;unfold Rp at hk;split at hk
 ·obtain⟨rfl,h⟩:=hk.1.get
  exact⟨_,hk.2,Vp _ h⟩
 ·exact hk.elim
noncomputable def akw:CPT:=ay 223 (aJ Rp) noC
theorem aeS:aZ Tryz.prog akw:=aj (aA aeR) aC
theorem Vq (s:ByteArray) (hs:s.size≤1099511627776):aB Tryz.prog 176 [.str s,.str ⟨#[47]⟩] (.tup [.str (nH s),.str (nI s),.bp (rH s)]):=by
 refine au (md:=1) (rf:=[]) mixed ak aeS Tryz.func176 qqR qqR qqR ?_;refine wk1 ?_;all_goals first|exact Sup.of rfl|omega
def Rq:PSp:=λxs K=>match xs with
 | [.str s,.str t]=>VC (t=⟨#[47]⟩/\s.size≤1099511627776)/\K (.tup [.str (nH s),.str (nI s),.bp (rH s)])
 |_=>False
theorem Vr:POK Tryz.prog 176 Rq:=by
 intro xs K hk;unfold Rq at hk;split at hk
 ·obtain⟨rfl,h⟩:=hk.1.get
  exact⟨_,hk.2,Vq _ h⟩
 ·exact hk.elim
end Go.Eng.YtmkagljofpddpaaGreatDoor
namespace Go.Eng.YtmkagljofpddpaaGreatDoor
open Go.Proofs
set_option linter.unusedSimpArgs false
set_option linter.unusedVariables false
set_option maxHeartbeats 0
set_option maxRecDepth 100000
theorem Rs (h:Bool) (e:Int):aB Tryz.prog 114 [.bp h,.int .i64 e] (.int .i64 (if h then e else 0)):=by
 refine au (md:=0) (rf:=[]) mixed ak aC Tryz.func114 qqR qqR qqR ?_
 repeat'((conv=>whnf);first|intro _|apply aI|exact aD|apply nM|apply fM)
 all_goals all_goals(first|(refine Sup.of ?_;first|rfl|(simp[*,dJ];done))|(refine Sup.via ?_;repeat'((conv=>whnf);first|intro _|apply aI|exact aD|apply nM|apply fM);all_goals((try apply vM);(try simp only[vq]at*);try omega);all_goals(try(simp[CL.sub];done))))
theorem LJ (h:Bool) (e:Int):aB Tryz.prog 114 [.bool h,.int .i64 e] (.int .i64 (if h then e else 0)):=by
 cases h
 all_goals
  refine au (md:=0) (rf:=[]) mixed ak aC Tryz.func114 qqR qqR qqR ?_
  repeat'((conv=>whnf);first|intro _|apply aI|exact aD|apply nM|apply fM)
  all_goals all_goals(first|(refine Sup.of ?_;first|rfl|(simp[*,dJ];done))|(refine Sup.via ?_;repeat'((conv=>whnf);first|intro _|apply aI|exact aD|apply nM|apply fM);all_goals((try apply vM);(try simp only[vq]at*);try omega);all_goals(try(simp[CL.sub];done))))
theorem jJ:POK Tryz.prog 114 lu:=by
 intro xs K h;unfold lu at h;split at h
 ·exact⟨_,h,Rs _ _⟩
 ·exact⟨_,h,LJ _ _⟩
 ·exact h.elim
theorem Rt (h:Bool) (e:Int):aB Tryz.prog 24 [.bp h,.int .i64 e] (.int .i64 (if h then e else 0)):=by
 refine au (md:=0) (rf:=[]) mixed ak aC Tryz.func24 qqR qqR qqR ?_
 repeat'((conv=>whnf);first|intro _|apply aI|exact aD|apply nM|apply fM)
 all_goals all_goals(first|(refine Sup.of ?_;first|rfl|(simp[*,dJ];done))|(refine Sup.via ?_;repeat'((conv=>whnf);first|intro _|apply aI|exact aD|apply nM|apply fM);all_goals((try apply vM);(try simp only[vq]at*);try omega);all_goals(try(simp[CL.sub];done))))
theorem LK (h:Bool) (e:Int):aB Tryz.prog 24 [.bool h,.int .i64 e] (.int .i64 (if h then e else 0)):=by
 cases h
 all_goals
  refine au (md:=0) (rf:=[]) mixed ak aC Tryz.func24 qqR qqR qqR ?_
  repeat'((conv=>whnf);first|intro _|apply aI|exact aD|apply nM|apply fM)
  all_goals all_goals(first|(refine Sup.of ?_;first|rfl|(simp[*,dJ];done))|(refine Sup.via ?_;repeat'((conv=>whnf);first|intro _|apply aI|exact aD|apply nM|apply fM);all_goals((try apply vM);(try simp only[vq]at*);try omega);all_goals(try(simp[CL.sub];done))))
theorem YU:POK Tryz.prog 24 lu:=by
 intro xs K h;unfold lu at h;split at h
 ·exact⟨_,h,Rt _ _⟩
 ·exact⟨_,h,LK _ _⟩
 ·exact h.elim
def rJ:PSp:=λxs K=>match xs with
 | [.isl (.ints .i64 l) .none]=>VC (l.length<1000000)/\K (.int .i64 (dZ l))
 |_=>False
theorem LM (l:List Int) (hl:l.length<1000000):aB Tryz.prog 113 [.isl (.ints .i64 l) .none] (.int .i64 (dZ l)):=by
 refine au (md:=1) (rf:=[]) mixed ak aC Tryz.func113 qqR qqR qqR ?_;refine wk1 ?_;conv=>whnf
 refine aR (X:=Nat) (λi=>i≤l.length/\∀j,j<i->l.getD j 0=0) (λi=>[(7,.int .i64 i)]) (λ_=>[]) (λi=>l.length-i) 0 ⟨aH,mixed,ak,aC,aN⟩ qqR ⟨qqO,λj hj=>qqO⟩ ?_ ?_
 ·exact wk0
 ·intro i hi
  obtain⟨hi,hz⟩:=hi
  repeat'((conv=>whnf);first|intro _|apply aI|exact aD|apply nM|apply fM)
  all_goals((try apply vM);(try simp only[vq]at*);try omega)
  ·rename_i hne
   have:=Qq l i qqO hz (by simpa using hne)
   rw[this];exact Sup.of rfl
  ·rename_i hne
   have hne:l.getD i 0=0:=by simpa using hne
   refine⟨i+1,[],⟨⟨qqO,λj hj=>?_⟩,qqO⟩,?_⟩
   ·by_cases e:j=i
    ·subst e;exact hne
    ·exact hz j qqO
   ·exact wk0
  ·have:i=l.length:=qqO
   subst this;rw[Jd l hz];exact Sup.of rfl
theorem jr:POK Tryz.prog 113 rJ:=by
 intro xs K h;unfold rJ at h;split at h
 ·exact⟨_,h.2,LM _ h.1.get⟩
 ·exact h.elim
def smQ (n:Int):Bool:=decide (-999999999≤n/\n≤999999999)
theorem nJ (n:Int):smQ n=true↔ -999999999≤n/\n≤999999999:=decide_eq_true_iff
theorem Ru (n:Int):smQ n=false↔¬(-999999999≤n/\n≤999999999):=decide_eq_false_iff_not
theorem dY {b c:Bool} (h:b=c):Sup (.bool b) (.bp c):=⟨λhr=>by subst h;cases hr;exact .bp _ _⟩
theorem Vs (n:Int):aB Tryz.prog 141 [.int .i64 n] (.bp (smQ n)):=by
 cases h:smQ n
 ·rw[Ru]at h
  refine au (md:=1) (rf:=[]) mixed ak aC Tryz.func141 qqR qqR qqR ?_;refine wk2 (λhq=>?_) λhq=>?_;all_goals first|(exfalso;omega)|exact dY rfl|exact dY (decide_eq_false qqO)|(refine Sup.of ?_;simp[dJ];omega)
 ·rw[nJ]at h
  refine au (md:=1) (rf:=[]) mixed ak aC Tryz.func141 qqR qqR qqR ?_;refine wk1 λhq=>?_;all_goals first|(exfalso;omega)|exact dY rfl|exact dY (decide_eq_true qqO)|(refine Sup.of ?_;simp[dJ];omega)
def GJ:PSp:=λxs K=>match xs with
 | [.int .i64 n]=>VC (True)/\K (.bp (smQ n))
 |_=>False
theorem NJ:POK Tryz.prog 141 GJ:=by
 intro xs K h;unfold GJ at h;split at h
 ·exact⟨_,h.2,Vs _⟩
 ·exact h.elim
noncomputable def ahK:CPT:=ay 141 (aJ GJ) noC
theorem yN:aZ Tryz.prog ahK:=aj (aA NJ) aC
def xA (a b:Int):Int × Int:=if smQ a=true/\smQ b=true then(((aoF a.natAbs b.natAbs:Nat):Int),0)else(0,3)
theorem FH (x y:Int):aB Tryz.prog 41 [.int .i64 x,.int .i64 y] (.tup [.int .i64 (xA x y).1,.int .i64 (xA x y).2]):=by
 by_cases hx:smQ x=true/\smQ y=true
 ·obtain⟨h1,h2⟩:=hx
  have e:xA x y=(((aoF x.natAbs y.natAbs:Nat):Int),0):=if_pos ⟨h1,h2⟩;rw[e];have g1:=(nJ _).1 h1;have g2:=(nJ _).1 h2;refine au (md:=1) (rf:=[]) mixed ak yN Tryz.func41 qqR qqR qqR ?_;refine wk3 (λhq hq=>?_) (λhq hq=>?_) λhq=>?_;all_goals try(exfalso;simp_all;done)
  conv=>whnf
  refine aR (X:=Int × Int) (λp=>(-999999999≤p.1/\p.1≤999999999)/\(-999999999≤p.2/\p.2≤999999999)/\aoF p.1.natAbs p.2.natAbs=aoF x.natAbs y.natAbs) (λp=>[(0,.int .i64 p.1),(1,.int .i64 p.2)]) (λp=>[]) (λp=>p.2.natAbs) (x,y) ⟨aH,mixed,ak,yN,aN⟩ qqR ⟨g1,g2,rfl⟩ ?_ ?_
  ·exact wk0
   all_goals skip
  intro⟨a,b⟩ ⟨i1,i2,i3⟩;simp only at i1 i2 i3;clear h1 h2 g1 g2 e;by_cases hb:b=0
  ·subst hb
   rw[show(0:Int).natAbs=0 from rfl,apq]at i3;rw[<-i3];have ha:max a (0-a)=((a.natAbs:Nat):Int):=qqO;refine wk1 λhq=>?_;all_goals first|(simp only[ha];exact Sup.of rfl)|(rw[<-ha];exact Sup.of rfl)|omega
  ·have hm:(a.tmod b).natAbs=a.natAbs % b.natAbs:=Int.natAbs_tmod _ _
   have hml:=al8 a.natAbs (show b.natAbs>0 by omega)
   have hg:aoF b.natAbs (a.tmod b).natAbs=aoF x.natAbs y.natAbs:=by rw[hm,<-i3,aoG b.natAbs,<-apr,aoG]
   have hr: -999999999≤a.tmod b/\a.tmod b≤999999999:=qqO;have hr2:(a.tmod b).natAbs<b.natAbs:=qqO;clear hm hml;refine wk1 λhq=>?_;all_goals first
    |omega
    |(refine⟨(b,a.tmod b),[],⟨⟨i2,hr,hg⟩,hr2⟩,?_⟩
      exact wk0;all_goals skip)
 ·have e:xA x y=(0,3):=if_neg hx
  rw[e];refine au (md:=1) (rf:=[]) mixed ak yN Tryz.func41 qqR qqR qqR ?_;refine wk3 (λhq hq=>?_) (λhq hq=>?_) λhq=>?_;all_goals first|exact Sup.of rfl|(exfalso;simp_all;done)
def uZ:Nat->Int->Int->Int->Int->Int × Int
 |0,r,_,x,_=>(r,x)
 |k+1,r,s,x,y=>if s=0 then(r,x)else uZ k s (r-r / s*s) y (x-r / s*y)
theorem FI (k:Nat) (r x y:Int):uZ k r 0 x y=(r,x):=by cases k<;>simp[uZ]
def Ad (a n:Int):Int × Int:=uZ ((a % n).toNat+1) n (a % n) 0 1
def iI (a n:Int):Int × Bool:=((Ad a n).2 % n,decide ((Ad a n).1=1))
structure EuI (n r s x y:Int):Prop where
 n0:0<n
 s0:0≤s
 sr:s<r∨s≤r/\r=n
 rn:r≤n
 xn: -n≤x/\x≤n
 sg:(0≤y/\x≤0/\y*r-x*s=n)∨(y≤0/\0≤x/\x*s-y*r=n)
theorem EuI.start {n s:Int} (h:0<n) (h1:0≤s) (h2:s<n):EuI n n s 0 1:=⟨h,h1,.inl h2,qqO,qqO,.inl ⟨qqO,qqO,qqO⟩⟩
theorem GK {y r n:Int} (hr:0<r) (hy:0≤y) (h:y*r≤n):y≤n:=by
 have:y*1≤y*r:=aps qqO hy;omega
theorem EuI.yn {n r s x y:Int} (h:EuI n r s x y): -n≤y/\y≤n:=by
 obtain⟨z,a,b,c,d,e⟩:=h;rcases e with⟨e1,e2,e3⟩|⟨e1,e2,e3⟩
 ·have:x*s≤0:=apt e2 a
  by_cases hr:0<r
  ·have:=GK hr e1 (by omega:y*r≤n)
   omega
  ·omega
 ·have:0≤x*s:=apm e2 a
  by_cases hr:0<r
  ·have:=GK hr (y:= -y) qqO (by rw[apg];omega: -y*r≤n)
   omega
  ·omega
theorem EuI.step {n r s x y:Int} (h:EuI n r s x y) (hs:s≠0):EuI n s (r-r / s*s) y (x-r / s*y)/\(-n≤r / s*y/\r / s*y≤n)/\(0≤r / s*s/\r / s*s≤n)/\0≤r / s/\r-r / s*s<s:=by
 have hy:=h.yn;obtain⟨z,a,b,c,d,e⟩:=h;have hs0:0<s:=qqO;have hq:0≤r / s:=Int.ediv_nonneg qqO a;have hm:=Int.emod_add_mul_ediv r s;have hm0:=apu r hs;have hm1:=apv r hs0;rw[apk]at hm;generalize r / s=q at*
 generalize hrm:r % s=m at*
 have hrq:r-q*s=m:=qqO;rw[hrq];have hqs:0≤q*s:=apm hq a;rcases e with⟨e1,e2,e3⟩|⟨e1,e2,e3⟩
 ·have hx0:x*s≤0:=apt e2 a
  have hqy:0≤q*y:=apm hq e1;have hk:(q*y-x)*s+y*m=n:=by rw[<-e3,<-hrq];grind
  have hym:0≤y*m:=apm e1 hm0;have hle:q*y-x≤n:=GK hs0 qqO qqO;refine⟨⟨z,hm0,.inl hm1,qqO,hy,.inr ⟨qqO,e1,?_⟩⟩,⟨qqO,qqO⟩,⟨hqs,qqO⟩,hq,hm1⟩;rw[<-hk];grind
 ·have hx0:0≤x*s:=apm e2 a
  have hqy:q*y≤0:=Int.mul_nonpos_of_nonneg_of_nonpos hq e1;have hk:(x-q*y)*s-y*m=n:=by rw[<-e3,<-hrq];grind
  have hym:y*m≤0:=apt e1 hm0;have hle:x-q*y≤n:=GK hs0 qqO qqO;refine⟨⟨z,hm0,.inl hm1,qqO,hy,.inl ⟨qqO,e1,?_⟩⟩,⟨qqO,qqO⟩,⟨hqs,qqO⟩,hq,hm1⟩;first|(rw[<-hk];done)|(rw[<-hk];grind)
theorem qZ (x n:Int) (hn:0<n):(x.tmod n+n).tmod n=x % n/\ -n<x.tmod n/\x.tmod n<n:=by
 have h1: -n<x.tmod n/\x.tmod n<n:=by
  have:=Int.tmod_lt_of_pos x hn;have:=Int.lt_tmod_of_pos x hn;omega
 refine⟨?_,h1⟩;rw[ao9 qqO,Int.add_emod_right];rw[Int.tmod_eq_emod];split
 ·simp
 ·rw[show((n.natAbs:Nat):Int)=n by omega,Int.sub_emod_right,Int.emod_emod]
structure EuX where
 k:Nat
 r:Int
 s:Int
 x:Int
 y:Int
theorem YV (a n:Int) (hn:0<n/\n≤999999999) (ha: -999999999≤a/\a≤999999999):aB Tryz.prog 142 [.int .i64 a,.int .i64 n] (.tup [.int .i64 (iI a n).1,.bp (iI a n).2]):=by
 obtain⟨w1,w2,w3⟩:=qZ a n hn.1;have hm0:=apu a (show n≠0 by omega)
 have hm1:=apv a hn.1;have hstart:Ad a n=uZ ((a % n).toNat+1) n (a % n) 0 1:=rfl;unfold iI;generalize Ad a n=R at*
 generalize a % n=m at*
 refine au (md:=1) (rf:=[]) mixed ak aC Tryz.func142 qqR qqR qqR ?_;refine wk1 ?_;all_goals first
  |omega
  |skip
 rw[w1];conv=>whnf
 refine aR (X:=EuX) (λp=>EuI n p.r p.s p.x p.y/\p.s.toNat<p.k/\R=uZ p.k p.r p.s p.x p.y) (λp=>[(6,.int .i64 p.r),(7,.int .i64 p.s),(8,.int .i64 p.x),(9,.int .i64 p.y),(10,.any)]) (λp=>[]) (λp=>p.s.toNat) ⟨m.toNat+1,n,m,0,1⟩ ⟨aH,mixed,ak,aC,aN⟩ qqR ⟨EuI.start hn.1 hm0 hm1,by simp only;omega,hstart⟩ ?_ ?_
 ·exact wk0
  all_goals skip
 rintro⟨k,r,s,x,y⟩ ⟨h1,h2,h3⟩
 simp only at h1 h2 h3;clear w1 w2 w3 hm0 hm1 hstart;by_cases hs:s=0
 ·subst hs
  rw[FI]at h3;subst h3;obtain⟨v1,v2,v3⟩:=qZ x n hn.1;have hx:=h1.xn;refine wk1 λhq=>?_;all_goals first
   |omega
   |(simp only[v1];exact Sup.of rfl)
   |(rw[<-v1];exact Sup.of rfl)
   |(simp only[v1];refine Sup.of ?_;simp[dJ, *];done)
 ·obtain⟨k1,k2,k3,k4,k5⟩:=h1.step hs
  obtain⟨z,a,b,c,d,e⟩:=h1;have htd:r.tdiv s=r / s:=ao8 qqO;have hqr:r / s≤r:=Int.ediv_le_self _ qqO;have hxy:=k1.yn;have hk3:=k1.s0;all_goals exact I9
def Rv:PSp:=λxs K=>match xs with
 | [.int .i64 a,.int .i64 n]=>VC ((0<n/\n≤999999999)/\(-999999999≤a/\a≤999999999))/\K (.tup [.int .i64 (iI a n).1,.bp (iI a n).2])
 |_=>False
theorem Vt:POK Tryz.prog 142 Rv:=by
 intro xs K h;unfold Rv at h;split at h
 ·exact⟨_,h.2,YV _ _ h.1.get.1 h.1.get.2⟩
 ·exact h.elim
noncomputable def akx:CPT:=ay 142 (aJ Rv) ahK
theorem Er:aZ Tryz.prog akx:=aj (aA Vt) yN
def Ae (a n:Int):Int × Int:=if¬(smQ a=true/\1≤n/\n≤999999999)then(0,3)else if(iI a n).2=true then((iI a n).1,0)else(0,7)
theorem FJ (a n:Int):aB Tryz.prog 45 [.int .i64 a,.int .i64 n] (.tup [.int .i64 (Ae a n).1,.int .i64 (Ae a n).2]):=by
 unfold Ae;by_cases h:smQ a=true/\1≤n/\n≤999999999
 ·rw[if_neg (λg=>g h)]
  obtain⟨h1,h2,h3⟩:=h;have h4:=(nJ _).1 h1;by_cases hb:(iI a n).2=true
  ·rw[if_pos hb]
   refine au (md:=1) (rf:=[]) mixed ak Er Tryz.func45 qqR qqR qqR ?_;refine wk3 (λhq hq hq hq=>?_) (λhq hq hq hq=>?_) λhq=>?_;all_goals first|omega|exact⟨qqO,h4⟩|exact Sup.of rfl|(exfalso;simp_all;done)
  ·rw[if_neg hb]
   refine au (md:=1) (rf:=[]) mixed ak Er Tryz.func45 qqR qqR qqR ?_;refine wk3 (λhq hq hq hq=>?_) (λhq hq hq hq=>?_) λhq=>?_;all_goals first|omega|exact⟨qqO,h4⟩|exact Sup.of rfl|(exfalso;simp_all;done)
 ·rw[if_pos h]
  have h':smQ a=true->1≤n->n≤999999999->False:=λa b c=>h ⟨a,b,c⟩;refine au (md:=1) (rf:=[]) mixed ak Er Tryz.func45 qqR qqR qqR ?_;refine wk6 (λhq hq hq=>?_) (λhq hq hq=>?_) (λhq hq hq hq=>?_) (λhq hq hq hq=>?_) (λhq hq=>?_) λhq=>?_;all_goals first|omega|exact Sup.of rfl|(exfalso;simp_all;done)|(exfalso;exact h' qqA qqO qqO)
def kV (n:Int):Bool:=decide (2≤n/\∀d:Nat,d<n.toNat+1->2≤d->(d:Int)*d≤n->¬n % d=0)
theorem qF (n:Int):kV n=true↔2≤n/\∀d:Nat,2≤d->(d:Int)*d≤n->¬n % d=0:=by
 unfold kV;rw[decide_eq_true_iff];refine⟨λg=>⟨g.1,λd h1 h2=>g.2 d ?_ h1 h2⟩,λg=>⟨g.1,λd _=>g.2 d⟩⟩;have:(d:Int)*1≤d*d:=aps qqO qqO;omega
theorem aeT (n:Int) (hn:n≤999999999/\ -999999999≤n):aB Tryz.prog 144 [.int .i64 n] (.bp (kV n)):=by
 refine au (md:=1) (rf:=[]) mixed ak aC Tryz.func144 qqR qqR qqR ?_;refine wk1 ?_;conv=>whnf
 refine aR (X:=Nat) (λd=>(2≤d/\d≤40000)/\∀e:Nat,2≤e->e<d->(e:Int)*e≤n/\¬n % e=0) (λd=>[(3,.int .i64 d)]) (λ_=>[]) (λd=>40000-d) 2 ⟨aH,mixed,ak,aC,aN⟩ qqR ⟨qqO,λe h1 h2=>qqO⟩ ?_ ?_
 ·all_goals exact iG
 intro d ⟨⟨h1,h2⟩,h3⟩;have hdd:(d:Int)*d≤1600000000:=by
  have:=apw (show(d:Int)≤40000 by omega) (show(d:Int)≤40000 by omega) qqO qqO
  omega
 have hd0:0≤(d:Int)*d:=apm qqO qqO;have hd1:(d:Int)*d≤n->d<40000:=λh=>by
  refine ape λg=>?_;have:=apw (show(40000:Int)≤d by omega) (show(40000:Int)≤d by omega) qqO qqO
  omega
 have hmono:∀e:Nat,d≤e->(d:Int)*d≤(e:Int)*e:=λe h=>apw qqO qqO qqO qqO;by_cases hc:(d:Int)*d≤n
 ·have hlt:=hd1 hc
  have htm:n.tmod d=n % d:=ao9 qqO;by_cases hz:n % (d:Int)=0
  ·have e:kV n=false:=by
    exact Bool.eq_false_iff.2 λg=>((qF n).1 g).2 d h1 hc hz
   rw[e];rw[<-htm]at hz;clear hmono h3 hd1;all_goals exact uG
  ·have hz':¬n.tmod (d:Int)=0:=by rw[htm];exact hz
   have h3':∀e:Nat,2≤e->e<d+1->(e:Int)*e≤n/\¬n % e=0:=λe a b=>by
    by_cases ed:e=d
    ·subst ed;exact⟨hc,hz⟩
    ·exact h3 e a qqO
   clear hmono h3 hd1;all_goals exact E5
 ·have e:kV n=decide (2≤n):=by
   rw[Bool.eq_iff_iff,qF,decide_eq_true_iff];refine⟨λg=>g.1,λg=>⟨g,λe a b=>(h3 e a ?_).2⟩⟩;refine ape λg2=>?_;have:=hmono e g2;omega
  rw[e];clear hmono h3 hd1;refine wk1 λhq=>?_;all_goals first|omega|exact Sup.of rfl
def prP:PSp:=λxs K=>match xs with
 | [.int .i64 n]=>VC (n≤999999999/\ -999999999≤n)/\K (.bp (kV n))
 |_=>False
theorem abC:POK Tryz.prog 144 prP:=by
 intro xs K h;unfold prP at h;split at h
 ·exact⟨_,h.2,aeT _ h.1.get⟩
 ·exact h.elim
noncomputable def aky:CPT:=ay 144 (aJ prP) noC
theorem NK:aZ Tryz.prog aky:=aj (aA abC) aC
def prE (n:Int):Bool × Int:=if 0≤n/\n≤999999999 then(kV n,0)else(false,3)
theorem ahL (c:Bool) (e:Int):Sup (dJ [PV.bool c,.int .i64 e]) (.tup [.bp c,.int .i64 e]):=by all_goals(refine Sup.via ?_;repeat'((conv=>whnf);first|intro _|apply aI|exact aD|apply nM|apply fM);all_goals((try apply vM);(try simp only[vq]at*);try omega);all_goals(try(simp[CL.sub];done)))
theorem YW (n:Int):aB Tryz.prog 47 [.int .i64 n] (.tup [.bp (prE n).1,.int .i64 (prE n).2]):=by
 unfold prE;by_cases h:0≤n/\n≤999999999
 ·rw[if_pos h]
  refine au (md:=1) (rf:=[]) mixed ak NK Tryz.func47 qqR qqR qqR ?_;refine wk1 λhq hq=>?_;all_goals first|omega|exact Sup.of rfl
 ·rw[if_neg h]
  refine au (md:=1) (rf:=[]) mixed ak NK Tryz.func47 qqR qqR qqR ?_;refine wk2 (λhq hq=>?_) λhq=>?_;all_goals first|omega|exact Sup.of rfl|exact ahL _ _
end Go.Eng.YtmkagljofpddpaaGreatDoor
namespace Go.Eng.YtmkagljofpddpaaGreatDoor
open Go.Proofs Go.Eng.Dig Go.Eng.Dec
set_option linter.unusedSimpArgs false
set_option linter.unusedVariables false
set_option maxHeartbeats 0
set_option maxRecDepth 100000
theorem ahM {p:UInt8->Bool} {l:List UInt8}:l.dropWhile p=[]↔∀b∈l,p b=true:=by
 induction l with
 |nil=>simp
 |cons b r ih=>
  rw[apx];by_cases h:p b=true
  ·rw[if_pos h,ih];simp[h]
  ·rw[if_neg h];simp[h]
theorem ahN {p:UInt8->Bool} {l:List UInt8} (h:∀b∈l.dropWhile p,p b=true):∀b∈l,p b=true:=by
 induction l with
 |nil=>simp
 |cons b r ih=>
  rw[apx]at h;by_cases hb:p b=true
  ·rw[if_pos hb]at h
   intro c hc;rcases List.mem_cons.1 hc with rfl|hc
   ·exact hb
   ·exact ih h c hc
  ·rw[if_neg hb]at h
   exact absurd (h b qqS) hb
theorem JR (l cs:List UInt8):Go.Lib.trimS l cs=[]↔∀b∈l,cs.contains b=true:=by
 unfold Go.Lib.trimS Go.Lib.trimLeftS Go.Lib.trimRightS;rw[ahM];constructor
 ·intro h b hb
  exact ahN (p:=(cs.contains ·)) (l:=l.reverse) (λc hc=>h c (by simpa using hc)) b (by simpa using hb)
 ·intro h b hb
  have:b∈l.reverse.dropWhile (cs.contains ·):=by simpa using hb
  exact h b (by simpa using(List.dropWhile_sublist _).subset this)
theorem ahO {b c:Bool} (h:b=c):Sup (dJ [.bp b]) (.bp c):=by subst h;exact Sup.of rfl
def dcT (s:ByteArray):Bool:=decide (s.data.toList=Go.Lib.decDigits (vB s))
noncomputable def akz:CPT:=ay 224 (aJ Jw) noC
theorem NM:aZ Tryz.prog akz:=aj (aA Yk) aC
theorem NP (s:ByteArray):dcT s=true↔s.data.toList=Go.Lib.decDigits (vB s):=decide_eq_true_iff
theorem JU (b:UInt8):zY.data.toList.contains b=true↔48≤b.toNat/\b.toNat≤57:=by
 have h:∀n:_root_.Fin 256,zY.data.toList.contains (UInt8.ofNat n.val)=true↔48≤n.val/\n.val≤57:=qqV;have:=h ⟨b.toNat,b.toNat_lt⟩
 rwa [UInt8.ofNat_toNat]at this
theorem Rx (s:ByteArray):CF s=⟨#[]⟩↔mM s:=by
 unfold CF mM Dec.isD;constructor
 ·intro h b hb
  have h1:(Go.Lib.trimS s.data.toList zY.data.toList)=[]:=by
   have:=congrArg (λx:ByteArray=>x.data.toList) h;simpa using this
  exact(JU b).1 ((JR _ _).1 h1 b hb)
 ·intro h
  rw[(JR _ _).2 λb hb=>(JU b).2 (h b hb)]
theorem JV {s t:ByteArray} (h:s.data.toList=t.data.toList):s=t:=by
 cases s;cases t
 simp only[ByteArray.mk.injEq];exact Array.toList_inj.1 h
theorem Vu {s:ByteArray}:s=⟨#[]⟩↔s.data.toList=[]:=⟨λh=>by rw[h],λh=>JV h⟩
theorem abD {s:ByteArray} (hs:s≠⟨#[]⟩):∃r,s.data.toList=s.data.getD 0 0::r:=by
 have:s.data.toList≠[]:=λh=>hs (Vu.2 h);cases e:s.data.toList with
 |nil=>exact absurd e this
 |cons b r=>
  refine⟨r,?_⟩;rw[GI,e];rfl
theorem Vv (s:ByteArray):dcT s=true↔s≠⟨#[]⟩/\mM s/\((s.data.getD 0 0).toNat≠48∨s=⟨#[48]⟩):=by
 rw[NP];constructor
 ·intro h
  have hne:s≠⟨#[]⟩:=λe=>by
   have h1:=jW (vB s);rw[<-h,e]at h1;simp at h1
  refine⟨hne,by unfold mM;rw[h];exact sF _,?_⟩
  by_cases h0:vB s=0
  ·right
   rw[h0]at h;exact JV (by rw[h,dec_lt qqO];rfl)
  ·left
   obtain⟨b,r,e1,e2⟩:=Yf (vB s) h0;obtain⟨r',e3⟩:=abD hne;rw[h,e1]at e3;have e4:b=s.data.getD 0 0:=(List.cons.inj e3).1;rw[<-e4];exact λg=>e2 (UInt8.toNat_inj.1 (by show _=48;exact g))
 ·rintro⟨h1,h2,h3⟩
  obtain⟨r,e⟩:=abD h1;refine UA (s.data.toList.length-1) s.data.toList (by rw[e];simp) h2 λb r' e2 hb=>?_
  rw[e]at e2;obtain⟨e3,e4⟩:=List.cons.inj e2;rcases h3 with g|g
  ·exact absurd (by rw[e3,hb];rfl) g
  ·have:=congrArg (λx:ByteArray=>x.data.toList) g
   simp only[e]at this;rw[<-e4];have h5:(s.data.getD 0 0::r).length=1:=by rw[this];rfl
   simpa using h5
theorem Ry (s:ByteArray) (hs:s.size≤1099511627776):aB Tryz.prog 177 [.str s] (.bp (dcT s)):=by
 have hsz:s.size=s.data.toList.length:=by rw[alY];rfl
 have h1:=Vv s;have h2:=Rx s;have h3:s≠⟨#[]⟩->0<s.size:=λh=>by rw[hsz];exact aog.2 λe=>h (Vu.2 e)
 cases hd:dcT s
 ·rw[hd]at h1
  simp only[amn,false_iff]at h1;refine au (md:=1) (rf:=[]) mixed ak NM Tryz.func177 qqR qqR qqR ?_;refine wk5 (λhq hq=>?_) (λhq hq hq=>?_) (λhq hq hq=>?_) (λhq hq=>?_) λhq=>?_;all_goals first
   |(have:=h3 qqA;omega)
   |omega
   |exact dY rfl
   |(refine dY ?_;done)
   |(exfalso;exact h1 ⟨qqA,h2.1 qqA,.inl λg=>hq (congrArg Int.ofNat g)⟩)
   |(refine ahO ?_;exact decide_eq_false λg=>h1 ⟨qqA,h2.1 qqA,.inr g⟩)
 ·rw[hd]at h1
  obtain⟨g1,g2,g3⟩:=h1.1 rfl;have h3:=h3 g1;have h2:=h2.2 g2;refine au (md:=1) (rf:=[]) mixed ak NM Tryz.func177 qqR qqR qqR ?_;refine wk4 (λhq hq hq=>?_) (λhq hq hq=>?_) (λhq hq=>?_) λhq=>?_;all_goals first
   |omega
   |contradiction
   |exact dY rfl
   |(refine ahO ?_;exact decide_eq_true (g3.resolve_left λg=>hq λe=>g (Int.ofNat.inj e)))
def JW:PSp:=λxs K=>match xs with
 | [.str s]=>VC (s.size≤1099511627776)/\K (.bp (dcT s))
 |_=>False
theorem YX:POK Tryz.prog 177 JW:=by
 intro xs K h;unfold JW at h;split at h
 ·exact⟨_,h.2,Ry _ h.1.get⟩
 ·exact h.elim
def hdB (l:List UInt8) (m:Nat):ByteArray:=⟨(l.take m).toArray⟩
theorem aeU {s:ByteArray} {l:List UInt8} (h:preB s kMi=true) (hl:(dQ s kMi).data.toList=l):0<s.size/\((s.data.getD 0 0).toNat:Int)=45/\s.size=l.length+1/\s.extract 1 s.size=hdB l l.length:=by
 have hsz:s.size=s.data.toList.length:=by rw[alY];rfl
 rw[hsz,GI,ext_eq];unfold preB at h;unfold dQ at hl;rw[apy]at hl;unfold Go.Lib.trimPrefix at hl;rw[if_pos h]at hl;unfold Go.Lib.hasPrefix at h;unfold hdB;rw[anH];cases hs:s.data.toList with
 |nil=>rw[hs]at h;exact absurd h qqD
 |cons b r=>
  rw[hs]at h hl;have hb:b=45:=by simp at h;exact h.symm
  subst hb;have:r=l:=hl;subst this;simp
theorem ahP {s:ByteArray} {l:List UInt8} (h:preB s kMi=false) (hl:(dQ s kMi).data.toList=l):(0<s.size->¬((s.data.getD 0 0).toNat:Int)=45)/\s.size=l.length/\s=hdB l l.length:=by
 have hsz:s.size=s.data.toList.length:=by rw[alY];rfl
 unfold preB at h;unfold dQ at hl;rw[apy]at hl;unfold Go.Lib.trimPrefix at hl;rw[if_neg (by rw[h];decide)]at hl
 unfold Go.Lib.hasPrefix at h;refine⟨?_,by rw[hsz,hl],?_⟩
 ·rw[hsz,GI]
  intro h0 he;cases hs:s.data.toList with
  |nil=>rw[hs]at h0;exact absurd h0 qqD
  |cons b r=>
   rw[hs]at h he;have hb:b=45:=UInt8.toNat_inj.1 (by show _=45;simp at he;omega)
   subst hb;simp at h
 ·unfold hdB
  rw[anH,<-hl,lX]
theorem ahQ (b:Bool) (y:Nat):(sgz b y).tmod 1000000000=sgz b (y % B9):=by
 unfold sgz;cases b
 ·rw[if_neg qqS,if_neg qqS,tmd qqO];unfold B9;omega
 ·rw[if_pos rfl,if_pos rfl,Int.neg_tmod,tmd qqO];unfold B9;omega
theorem ahR (b:Bool) (y:Nat):(sgz b y).tdiv 1000000000=sgz b (y / B9):=by
 unfold sgz;cases b
 ·rw[if_neg qqS,if_neg qqS,tdv qqO];unfold B9;omega
 ·rw[if_pos rfl,if_pos rfl,Int.neg_tdiv,tdv qqO];unfold B9;omega
noncomputable def akA:CPT:=ay 204 (aJ CS) noC
theorem NQ:aZ Tryz.prog akA:=aj (aA Ep) aC
theorem qG (n:Int):sgz (decide (n<0)) n.natAbs=n:=by
 unfold sgz;by_cases h:n<0
 ·rw[decide_eq_true h,if_pos rfl];omega
 ·rw[decide_eq_false h,if_neg qqS];omega
theorem LP (n:Int) (h:iO n):aB Tryz.prog 138 [.int .i64 n] (zv n):=by
 have hx:n.natAbs≤9223372036854775808:=by have:=h;unfold iO at this;omega
 have hL:L9 n.natAbs≤3:=CQ (an4 hx qqD);have hs:n=sgz (decide (n<0)) n.natAbs:=(qG n).symm;have hdl:=Gu B92 n.natAbs;have hdnl:=dw B9;have hsig:=dR n.natAbs;have hD9:=dK n.natAbs;have htr:=pU n.natAbs;have hne:∀k,n.natAbs / B9 ^ k≠0->k<L9 n.natAbs:=λk hk=>ape λhle=>hk (alR (alp (Rj _) (anL qqD hle)));have heq:∀k,n.natAbs / B9 ^ k=0->k≤L9 n.natAbs->k=L9 n.natAbs:=λk hk hle=>apa hle (CQ ((aob (pw B92 k)).1 hk));have hle:∀k,n.natAbs / B9 ^ k≤n.natAbs:=λk=>aon _ _;have hn0:n.natAbs / B9 ^ 0=n.natAbs:=by rw[aod,amb]
 refine au (md:=1) (rf:=[]) mixed ak NQ Tryz.func138 qqR qqR qqR ?_;refine wk1 ?_;conv=>whnf
 refine aR (X:=Nat) (λk=>k≤L9 n.natAbs) (λk=>[(0,.int .i64 (sgz (decide (n<0)) (n.natAbs / B9 ^ k))),(3,.isl (.ints .i64 (dn B9 k n.natAbs)) (.own 20)),(4,.bp (decide (n<0))),(5,.any)]) (λk=>[(20,.tok 1 k)]) (λk=>L9 n.natAbs-k) 0 ⟨aH,mixed,ak,NQ,aN⟩ qqR qqO ?_ ?_
 ·refine wk1 ?_
  all_goals(rw[hn0];exact hs)
 intro k hk;have h1:=hne k;have h2:=heq k;have h3:=hle k;have h4:=hdnl k n.natAbs;have h5:=hdnl (k+1) n.natAbs;have h6:=CO (B:=B9) (n:=k) (x:=n.natAbs) rfl;have hm:=ahQ (decide (n<0)) (n.natAbs / B9 ^ k);have hd:=ahR (decide (n<0)) (n.natAbs / B9 ^ k);rw[<-oQ]at hd;have hend:k=L9 n.natAbs->dn B9 k n.natAbs=dl B9 n.natAbs:=λe=>by rw[e];exact hdl.symm
 clear hne heq hle hdnl hdl;have hr:n.natAbs / B9 ^ k % B9<1000000000:=al8 _ qqD;generalize hdg:n.natAbs / B9 ^ k % B9=d at*
 generalize hy:n.natAbs / B9 ^ k=y at*
 by_cases h0:y=0
 ·have ek:=h2 h0 hk
  have hv:sgz (decide (n<0)) y=0:=by rw[h0];unfold sgz;split<;>rfl
  rw[hv,hend ek];refine wk2 (λhq=>?_) λhq=>?_;all_goals(try simp only[htr,hsig,<-hs])
  all_goals first
   |omega
   |exact⟨by unfold L9 at hL;omega,hD9⟩
   |exact Sup.of rfl
 ·have hk1:=h1 h0
  have hv:sgz (decide (n<0)) y≠0:=by unfold sgz;split<;>omega
  have hvr: -9223372036854775808≤sgz (decide (n<0)) y/\sgz (decide (n<0)) y≤9223372036854775807:=by
   have:=h;unfold iO at this;unfold sgz;by_cases hn:n<0
   ·rw[decide_eq_true hn,if_pos rfl];omega
   ·rw[decide_eq_false hn,if_neg qqS];omega
  have hdig:(sgz (decide (n<0)) d<0->0-sgz (decide (n<0)) d=d)/\(¬sgz (decide (n<0)) d<0->sgz (decide (n<0)) d=d):=by
   unfold sgz;split<;>omega
  have hdr: -9223372036854775808≤sgz (decide (n<0)) (n.natAbs / B9 ^ (k+1))/\sgz (decide (n<0)) (n.natAbs / B9 ^ (k+1))≤9223372036854775807:=by
   have h8:=aon y B9;rw[<-hy,<-oQ]at h8;generalize n.natAbs / B9 ^ (k+1)=y' at*
   have:=h;unfold iO at this;unfold sgz;by_cases hn:n<0
   ·rw[decide_eq_true hn,if_pos rfl];omega
   ·rw[decide_eq_false hn,if_neg qqS];omega
  generalize hw:sgz (decide (n<0)) y=v at*
  generalize hw2:sgz (decide (n<0)) d=w at*
  rw[<-hm]at hdig;refine wk4 (λhq hq=>?_) (λhq hq=>?_) (λhq hq=>?_) λhq hq=>?_;all_goals(try simp only[hd])
  all_goals first
   |omega
   |(rw[hdig.1 hq,h6,h5];omega)
   |(rw[hdig.2 hq,h6,h5];omega)
   |(refine⟨k+1,[],⟨qqO,qqO⟩,?_⟩
     refine wk1 ?_;all_goals(try rw[hd])
     all_goals first
      |(rw[hdig.1 hq,h6];done)
      |(rw[hdig.2 hq,h6];done)
      |(rw[hdig.1 hq];exact congrArg (CL.ints .i64) h6)
      |(rw[hdig.2 hq];exact congrArg (CL.ints .i64) h6)
      )
def Es:PSp:=λxs K=>match xs with
 | [.int .i64 n]=>VC (iO n)/\K (zv n)
 |_=>False
theorem Vw:POK Tryz.prog 138 Es:=by
 intro xs K h;unfold Es at h;split at h
 ·exact⟨_,h.2,LP _ h.1.get⟩
 ·exact h.elim
end Go.Eng.YtmkagljofpddpaaGreatDoor
