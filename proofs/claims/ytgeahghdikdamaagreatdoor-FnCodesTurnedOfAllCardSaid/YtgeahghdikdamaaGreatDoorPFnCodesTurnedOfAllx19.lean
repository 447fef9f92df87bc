-- made for this claim by a program of this session
import Derived.Test.YtgeahghdikdamaaGreatDoorPFnCodesTurnedOfAllx0
import Derived.Test.YtgeahghdikdamaaGreatDoorPFnCodesTurnedOfAllx2
import Derived.Test.YtgeahghdikdamaaGreatDoorPFnCodesTurnedOfAllx17
namespace Go.Proofs.YtgeahghdikdamaaGreatDoor.PFnCodesTurnedOfAll
open Go.RowKit Go.Proofs.YtgeahghdikdamaaGreatDoorW.PrintWords Go.Proofs.YtgeahghdikdamaaGreatDoorW.PrintLast Go.Proofs.YtgeahghdikdamaaGreatDoorW.PrintMore
attribute [local go_sem] Dq Dr D7 D8 Db Dc Ds Dt -- for this text's walks alone
set_option linter.unusedVariables false
set_option linter.unusedSimpArgs false
set_option maxHeartbeats 8000000
set_option maxRecDepth 100000

/-! ### strings_CutPrefix: function 34 -/
def Kv:Go.Shelf.Ren:=⟨fun|103=>34|210=>65|206=>93|n=>n,fun|9=>9|4=>4|24=>29|3=>3|n=>n,fun|n=>n⟩
theorem Mo:Go.Proofs.Lays.n103 Tryz.prog Kv where
 mixed:=by kernel_rfl
 f103:=Tryz.func34.trans (congrArg some kz)
 f206:=Tryz.func93.trans (congrArg some kz)
 f210:=Tryz.func65.trans (congrArg some kz)
 t3:=Tryz.underlying3
 a3:=Tryz.isAgg3
 z3:=Tryz.sizeOf3
 v3:=Tryz.zeroValue3
 t4:=Tryz.underlying4
 a4:=Tryz.isAgg4
 z4:=Tryz.sizeOf4
 v4:=Tryz.zeroValue4
 t9:=Tryz.underlying9
 a9:=Tryz.isAgg9
 z9:=Tryz.sizeOf9
 v9:=Tryz.zeroValue9
 t24:=Tryz.underlying29
 a24:=Tryz.isAgg29
 z24:=Tryz.sizeOf29
 v24:=Tryz.zeroValue29
def strings_CutPrefix.f (s p:ByteArray):Option (ByteArray×Bool):=some (⟨(Lib.trimPrefix s.data.toList p.data.toList).toArray⟩,Lib.hasPrefix s.data.toList p.data.toList)
theorem strings_CutPrefix.calls (s p:ByteArray) (r1:ByteArray) (r2:Bool) (w:World) (h:strings_CutPrefix.f s p=some (r1,r2)) :
  Calls Tryz.prog 34 #[.string s,.string p] w fun e w'=>e=.returned (.tuple #[.string r1,.bool r2])∧Cs w w':=by
 unfold strings_CutPrefix.f at h;have h:=Option.some.inj h;simp only [Prod.mk.injEq] at h;obtain ⟨rfl,rfl⟩:=h;refine (Any.strings_CutPrefix Mo s p w).mono ?_;rintro e w' ⟨rfl,rfl⟩;exact ⟨rfl,Cs.refl _⟩

-- NOT PRINTED: function 94 (stringslite_HasSuffix)

-- NOT PRINTED: function 66 (stringslite_CutSuffix)

/-! ### strings_CutSuffix: function 35 -/
def Kw:Go.Shelf.Ren:=⟨fun|104=>35|211=>66|207=>94|n=>n,fun|9=>9|4=>4|24=>29|3=>3|n=>n,fun|n=>n⟩
theorem Mp:Go.Proofs.Lays.n104 Tryz.prog Kw where
 mixed:=by kernel_rfl
 f104:=Tryz.func35.trans (congrArg some kz)
 f207:=Tryz.func94.trans (congrArg some kz)
 f211:=Tryz.func66.trans (congrArg some kz)
 t3:=Tryz.underlying3
 a3:=Tryz.isAgg3
 z3:=Tryz.sizeOf3
 v3:=Tryz.zeroValue3
 t4:=Tryz.underlying4
 a4:=Tryz.isAgg4
 z4:=Tryz.sizeOf4
 v4:=Tryz.zeroValue4
 t9:=Tryz.underlying9
 a9:=Tryz.isAgg9
 z9:=Tryz.sizeOf9
 v9:=Tryz.zeroValue9
 t24:=Tryz.underlying29
 a24:=Tryz.isAgg29
 z24:=Tryz.sizeOf29
 v24:=Tryz.zeroValue29
def strings_CutSuffix.f (s p:ByteArray):Option (ByteArray×Bool):=if s.size≤2000000 then some (⟨(Lib.trimSuffix s.data.toList p.data.toList).toArray⟩,Lib.hasSuffix s.data.toList p.data.toList) else none
theorem strings_CutSuffix.calls (s p:ByteArray) (r1:ByteArray) (r2:Bool) (w:World) (h:strings_CutSuffix.f s p=some (r1,r2)) :
  Calls Tryz.prog 35 #[.string s,.string p] w fun e w'=>e=.returned (.tuple #[.string r1,.bool r2])∧Cs w w':=by
 unfold strings_CutSuffix.f at h;(by_cases h1:s.size≤2000000)
 ·rw [if_pos h1] at h;have h:=Option.some.inj h;simp only [Prod.mk.injEq] at h;obtain ⟨rfl,rfl⟩:=h;refine (Any.strings_CutSuffix Mp s p w oz).mono ?_;rintro e w' ⟨rfl,rfl⟩;exact ⟨rfl,Cs.refl _⟩
 ·rw [if_neg h1] at h;cases h

-- NOT PRINTED: function 110 (utf8_RuneCountInString)

-- NOT PRINTED: function 136 (utf8_decodeRuneInStringSlow)

-- NOT PRINTED: function 111 (utf8_DecodeRuneInString)

-- NOT PRINTED: function 95 (strings_explode)

-- NOT PRINTED: function 157 (bytealg_IndexByteString)

-- NOT PRINTED: function 137 (stringslite_IndexByte)

-- NOT PRINTED: function 138 (bytealg_IndexString)

-- NOT PRINTED: function 139 (bytealg_Cutover)

-- NOT PRINTED: function 158 (bytealg_hashStr_string)

-- NOT PRINTED: function 140 (bytealg_IndexRabinKarp_string)

-- NOT PRINTED: function 113 (stringslite_Index)

-- NOT PRINTED: function 97 (strings_Index)

-- NOT PRINTED: function 112 (bytealg_CountString)

-- NOT PRINTED: function 96 (strings_Count)

-- NOT PRINTED: function 67 (strings_genSplit)

/-! ### strings_Split: function 36 -/
def Jz:Go.Shelf.Ren:=⟨fun|146=>36|221=>67|268=>95|138=>96|143=>97|195=>110|197=>111|218=>112|219=>113|260=>136|217=>137|225=>138|224=>139|267=>140|266=>157|314=>158|n=>n,fun|9=>9|31=>50|3=>3|4=>4|0=>0|105=>106|21=>21|5=>5|46=>100|119=>151|139=>154|138=>153|146=>155|51=>127|n=>n,fun|1=>0|3=>3|4=>4|n=>n⟩
theorem Qi:Go.Proofs.Lays.n146 Tryz.prog Jz where
 mixed:=by kernel_rfl
 f138:=Tryz.func96.trans (congrArg some kz)
 f143:=Tryz.func97.trans (congrArg some kz)
 f146:=Tryz.func36.trans (congrArg some kz)
 f195:=Tryz.func110.trans (congrArg some kz)
 f197:=Tryz.func111.trans (congrArg some kz)
 f217:=Tryz.func137.trans (congrArg some kz)
 f218:=Tryz.func112.trans (congrArg some kz)
 f219:=Tryz.func113.trans (congrArg some kz)
 f221:=Tryz.func67.trans (congrArg some kz)
 f224:=Tryz.func139.trans (congrArg some kz)
 f225:=Tryz.func138.trans (congrArg some kz)
 f260:=Tryz.func136.trans (congrArg some kz)
 f266:=Tryz.func157.trans (congrArg some kz)
 f267:=Tryz.func140.trans (congrArg some kz)
 f268:=Tryz.func95.trans (congrArg some kz)
 f314:=Tryz.func158.trans (congrArg some kz)
 t0:=Tryz.underlying0
 a0:=Tryz.isAgg0
 z0:=Tryz.sizeOf0
 v0:=Tryz.zeroValue0
 t3:=Tryz.underlying3
 a3:=Tryz.isAgg3
 z3:=Tryz.sizeOf3
 v3:=Tryz.zeroValue3
 t4:=Tryz.underlying4
 a4:=Tryz.isAgg4
 z4:=Tryz.sizeOf4
 v4:=Tryz.zeroValue4
 t5:=Tryz.underlying5
 a5:=Tryz.isAgg5
 z5:=Tryz.sizeOf5
 v5:=Tryz.zeroValue5
 t9:=Tryz.underlying9
 a9:=Tryz.isAgg9
 z9:=Tryz.sizeOf9
 v9:=Tryz.zeroValue9
 t21:=Tryz.underlying21
 a21:=Tryz.isAgg21
 z21:=Tryz.sizeOf21
 v21:=Tryz.zeroValue21
 t31:=Tryz.underlying50
 a31:=Tryz.isAgg50
 z31:=Tryz.sizeOf50
 v31:=Tryz.zeroValue50
 t46:=Tryz.underlying100
 a46:=Tryz.isAgg100
 z46:=Tryz.sizeOf100
 v46:=Tryz.zeroValue100
 t51:=Tryz.underlying127
 a51:=Tryz.isAgg127
 z51:=Tryz.sizeOf127
 v51:=Tryz.zeroValue127
 t105:=Tryz.underlying106
 a105:=Tryz.isAgg106
 z105:=Tryz.sizeOf106
 v105:=Tryz.zeroValue106
 t119:=Tryz.underlying151
 a119:=Tryz.isAgg151
 z119:=Tryz.sizeOf151
 t138:=Tryz.underlying153
 a138:=Tryz.isAgg153
 z138:=Tryz.sizeOf153
 v138:=Tryz.zeroValue153
 t139:=Tryz.underlying154
 a139:=Tryz.isAgg154
 z139:=Tryz.sizeOf154
 v139:=Tryz.zeroValue154
 t146:=Tryz.underlying155
 a146:=Tryz.isAgg155
 z146:=Tryz.sizeOf155
 v146:=Tryz.zeroValue155
 g1:=by kernel_rfl
 g3:=by kernel_rfl
 g4:=by kernel_rfl
theorem Qt:(Tryz.prog.info? (Jz.t 9)).map (fun i=>(i.zero,i.size,i.bytes))=some (some (.string ByteArray.empty),1,16):=by kernel_rfl
def strings_Split.f (s sep:ByteArray):Option (List ByteArray):=if s.size≤2000000∧1≤sep.size then some (Lib.splitB sep 0 (Lib.countB s sep) s) else none
theorem strings_Split.calls (s sep:ByteArray) (r:List ByteArray) (w:World) (h:strings_Split.f s sep=some r) (hT_:Ab (VT w)) :
  Calls Tryz.prog 36 #[.string s,.string sep] w fun e w'=>∃ a1:Value,e=.returned a1∧Kd.R Kd.string 9 w' w.heap.size (fun _=>True) a1 r∧Below w.heap.size w w':=by
 unfold strings_Split.f at h;(by_cases h1:s.size≤2000000∧1≤sep.size)
 ·rw [if_pos h1] at h;obtain rfl:=Option.some.inj h;obtain ⟨_,_,_,m,hm⟩:=hT_.out;have hlen:=Lib.splitB_all sep h1.2 0 _ s rfl;have hle:=Lib.countB_le sep h1.2 s.size s (Nat.le_refl _);refine (Any.strings_Split Qi Qt s sep m w oz hm h1.2).mono ?_;rintro e w' ⟨rfl,rfl⟩;rw [← hlen];refine ⟨_,rfl,?_,Dd (Below.refl _ _) _⟩;exact Kd.R_of_own (Xv w w.heap.size 9 _ (Nat.le_refl _) oz) (fun _ _=>trivial)
 ·rw [if_neg h1] at h;cases h

-- NOT PRINTED: function 159 (strconv_lower)

-- NOT PRINTED: function 160 (strconv_underscoreOK)

-- NOT PRINTED: function 141 (strconv_ParseUint)

-- NOT PRINTED: function 114 (strconv_ParseInt)

-- NOT PRINTED: function 98 (strconv_Atoi_98)

-- NOT PRINTED: function 142 (stringslite_Clone)

-- NOT PRINTED: function 115 (strconv_syntaxError)

-- NOT PRINTED: function 116 (strconv_rangeError)

-- NOT PRINTED: function 143 (errors_New)

-- NOT PRINTED: function 117 (strconv_baseError)

-- NOT PRINTED: function 118 (strconv_bitSizeError)

-- NOT PRINTED: function 99 (strconv_toError)

-- NOT PRINTED: function 68 (strconv_Atoi_68)

/-! ### Ez: function 37 -/
def Nr:Go.Shelf.Ren:=⟨fun|172=>68|244=>98|245=>99|247=>114|279=>115|280=>116|281=>117|282=>118|287=>141|316=>142|171=>69|205=>143|321=>159|322=>160|243=>100|246=>119|283=>144|284=>145|285=>146|286=>147|129=>133|317=>161|318=>162|319=>163|320=>164|337=>167|338=>168|n=>n,fun|9=>9|3=>3|75=>75|76=>76|4=>4|5=>5|167=>109|37=>92|0=>0|85=>110|2=>2|168=>112|53=>129|175=>131|46=>100|210=>135|127=>130|145=>161|143=>159|21=>21|171=>137|173=>139|212=>163|51=>127|20=>20|213=>164|232=>168|233=>169|80=>105|n=>n,fun|15=>1|16=>2|17=>5|18=>6|19=>7|n=>n⟩
theorem Ip:Go.Proofs.LaysC.n172 Tryz.prog Nr where
 mixed:=by kernel_rfl
 f129:=Tryz.func133.trans (congrArg some kz)
 f171:=Tryz.func69.trans (congrArg some kz)
 f172:=Tryz.func68.trans (congrArg some kz)
 f205:=Tryz.func143.trans (congrArg some kz)
 f243:=Tryz.func100.trans (congrArg some kz)
 f244:=Tryz.func98.trans (congrArg some kz)
 f245:=Tryz.func99.trans (congrArg some kz)
 f246:=Tryz.func119.trans (congrArg some kz)
 f247:=Tryz.func114.trans (congrArg some kz)
 f279:=Tryz.func115.trans (congrArg some kz)
 f280:=Tryz.func116.trans (congrArg some kz)
 f281:=Tryz.func117.trans (congrArg some kz)
 f282:=Tryz.func118.trans (congrArg some kz)
 f283:=Tryz.func144.trans (congrArg some kz)
 f284:=Tryz.func145.trans (congrArg some kz)
 f285:=Tryz.func146.trans (congrArg some kz)
 f286:=Tryz.func147.trans (congrArg some kz)
 f287:=Tryz.func141.trans (congrArg some kz)
 f316:=Tryz.func142.trans (congrArg some kz)
 f317:=Tryz.func161.trans (congrArg some kz)
 f318:=Tryz.func162.trans (congrArg some kz)
 f319:=Tryz.func163.trans (congrArg some kz)
 f320:=Tryz.func164.trans (congrArg some kz)
 f321:=Tryz.func159.trans (congrArg some kz)
 f322:=Tryz.func160.trans (congrArg some kz)
 f337:=Tryz.func167.trans (congrArg some kz)
 f338:=Tryz.func168.trans (congrArg some kz)
 t0:=Tryz.underlying0
 a0:=Tryz.isAgg0
 z0:=Tryz.sizeOf0
 v0:=Tryz.zeroValue0
 t2:=Tryz.underlying2
 a2:=Tryz.isAgg2
 z2:=Tryz.sizeOf2
 v2:=Tryz.zeroValue2
 t3:=Tryz.underlying3
 a3:=Tryz.isAgg3
 z3:=Tryz.sizeOf3
 v3:=Tryz.zeroValue3
 t4:=Tryz.underlying4
 a4:=Tryz.isAgg4
 z4:=Tryz.sizeOf4
 v4:=Tryz.zeroValue4
 t5:=Tryz.underlying5
 a5:=Tryz.isAgg5
 z5:=Tryz.sizeOf5
 v5:=Tryz.zeroValue5
 t9:=Tryz.underlying9
 a9:=Tryz.isAgg9
 z9:=Tryz.sizeOf9
 v9:=Tryz.zeroValue9
 t20:=Tryz.underlying20
 a20:=Tryz.isAgg20
 z20:=Tryz.sizeOf20
 v20:=Tryz.zeroValue20
 t21:=Tryz.underlying21
 a21:=Tryz.isAgg21
 z21:=Tryz.sizeOf21
 v21:=Tryz.zeroValue21
 t37:=Tryz.underlying92
 a37:=Tryz.isAgg92
 z37:=Tryz.sizeOf92
 v37:=Tryz.zeroValue92
 t46:=Tryz.underlying100
 a46:=Tryz.isAgg100
 z46:=Tryz.sizeOf100
 v46:=Tryz.zeroValue100
 t51:=Tryz.underlying127
 a51:=Tryz.isAgg127
 z51:=Tryz.sizeOf127
 v51:=Tryz.zeroValue127
 t53:=Tryz.underlying129
 a53:=Tryz.isAgg129
 z53:=Tryz.sizeOf129
 v53:=Tryz.zeroValue129
 t75:=Tryz.underlying75
 a75:=Tryz.isAgg75
 z75:=Tryz.sizeOf75
 v75:=Tryz.zeroValue75
 t76:=Tryz.underlying76
 a76:=Tryz.isAgg76
 z76:=Tryz.sizeOf76
 v76:=Tryz.zeroValue76
 t85:=Tryz.underlying110
 a85:=Tryz.isAgg110
 z85:=Tryz.sizeOf110
 v85:=Tryz.zeroValue110
 t127:=Tryz.underlying130
 a127:=Tryz.isAgg130
 z127:=Tryz.sizeOf130
 v127:=Tryz.zeroValue130
 t143:=Tryz.underlying159
 a143:=Tryz.isAgg159
 z143:=Tryz.sizeOf159
 v143:=Tryz.zeroValue159
 t145:=Tryz.underlying161
 a145:=Tryz.isAgg161
 z145:=Tryz.sizeOf161
 v145:=Tryz.zeroValue161
 t167:=Tryz.underlying109
 a167:=Tryz.isAgg109
 z167:=Tryz.sizeOf109
 v167:=Tryz.zeroValue109
 t168:=Tryz.underlying112
 a168:=Tryz.isAgg112
 z168:=Tryz.sizeOf112
 v168:=Tryz.zeroValue112
 t171:=Tryz.underlying137
 a171:=Tryz.isAgg137
 z171:=Tryz.sizeOf137
 v171:=Tryz.zeroValue137
 t173:=Tryz.underlying139
 a173:=Tryz.isAgg139
 z173:=Tryz.sizeOf139
 v173:=Tryz.zeroValue139
 t175:=Tryz.underlying131
 a175:=Tryz.isAgg131
 z175:=Tryz.sizeOf131
 v175:=Tryz.zeroValue131
 t210:=Tryz.underlying135
 a210:=Tryz.isAgg135
 z210:=Tryz.sizeOf135
 v210:=Tryz.zeroValue135
 t212:=Tryz.underlying163
 a212:=Tryz.isAgg163
 z212:=Tryz.sizeOf163
 v212:=Tryz.zeroValue163
 t213:=Tryz.underlying164
 a213:=Tryz.isAgg164
 z213:=Tryz.sizeOf164
 t232:=Tryz.underlying168
 a232:=Tryz.isAgg168
 z232:=Tryz.sizeOf168
 v232:=Tryz.zeroValue168
 t233:=Tryz.underlying169
 a233:=Tryz.isAgg169
 z233:=Tryz.sizeOf169
 v233:=Tryz.zeroValue169
 g15:=by kernel_rfl
 g16:=by kernel_rfl
 g17:=by kernel_rfl
 g18:=by kernel_rfl
 g19:=by kernel_rfl
 t80:=Tryz.underlying105
 a80:=Tryz.isAgg105
 z80:=Tryz.sizeOf105
 v80:=Tryz.zeroValue105
 i0:=by kernel_rfl
 i2:=by kernel_rfl
 i3:=by kernel_rfl
 i4:=by kernel_rfl
 i5:=by kernel_rfl
 i9:=by kernel_rfl
 i20:=by kernel_rfl
 i21:=by kernel_rfl
 i37:=by kernel_rfl
 i46:=by kernel_rfl
 i51:=by kernel_rfl
 i53:=by kernel_rfl
 i75:=by kernel_rfl
 i76:=by kernel_rfl
 i80:=by kernel_rfl
 i85:=by kernel_rfl
 i127:=by kernel_rfl
 i143:=by kernel_rfl
 i145:=by kernel_rfl
 i167:=by kernel_rfl
 i168:=by kernel_rfl
 i171:=by kernel_rfl
 i173:=by kernel_rfl
 i175:=by kernel_rfl
 i210:=by kernel_rfl
 i212:=by kernel_rfl
 i232:=by kernel_rfl
 i233:=by kernel_rfl
 m15:=by kernel_rfl
 m16:=by kernel_rfl
 m17:=by kernel_rfl
 m18:=by kernel_rfl
 m19:=by kernel_rfl
 c0:=by kernel_rfl
 c2:=by kernel_rfl
 c3:=by kernel_rfl
 c4:=by kernel_rfl
 c5:=by kernel_rfl
 c9:=by kernel_rfl
 c20:=by kernel_rfl
 c21:=by kernel_rfl
 c37:=by kernel_rfl
 c46:=by kernel_rfl
 c51:=by kernel_rfl
 c53:=by kernel_rfl
 c75:=by kernel_rfl
 c76:=by kernel_rfl
 c80:=by kernel_rfl
 c85:=by kernel_rfl
 c127:=by kernel_rfl
 c143:=by kernel_rfl
 c145:=by kernel_rfl
 c167:=by kernel_rfl
 c168:=by kernel_rfl
 c171:=by kernel_rfl
 c173:=by kernel_rfl
 c175:=by kernel_rfl
 c210:=by kernel_rfl
 c212:=by kernel_rfl
 c213:=by kernel_rfl
 c232:=by kernel_rfl
 c233:=by kernel_rfl
theorem atoi_bds {l:List UInt8} {v:Int} (h:Lib.atoiAll l=.ok v) : -9223372036854775808≤v∧v≤9223372036854775807:=by
 unfold Lib.atoiAll at h;(split at h)
 ·cases h
 ·(dsimp only at h);(split at h)
  ·cases h
  ·cases h
  ·(split at h)
   ·cases h
   ·(split at h)
    ·cases h
    ·(rename_i h1 h2);(injection h with h);(split at h <;> omega)
def Ez.f (a0:ByteArray) (a1:Int):Option (Int×Bool):=if a0.size≤2000000 then some (match Lib.atoiAll a0.data.toList with | .ok v=>(if Lib.itoa v=a0.toList then (if 0≤v∧v≤a1 then (v,true) else (0,false)) else (0,false))|_=>(0,false)) else none
theorem Ez.calls (a0:ByteArray) (a1:Int) (r1:Int) (r2:Bool) (w:World) (h:Ez.f a0 a1=some (r1,r2)) (hT_:Ab (VT w)) :
  Calls Tryz.prog 37 #[.string a0,.int .i64 a1] w fun e w'=>e=.returned (.tuple #[.int .i64 r1,.bool r2])∧Below w.heap.size w w':=by
 unfold Ez.f at h;have HB:=am (Below.refl w.heap.size w);(by_cases h1:a0.size≤2000000)
 ·rw [if_pos h1] at h;have h:=Option.some.inj h
  cases hA:Lib.atoiAll a0.data.toList with
  | ok v =>
   rw [hA] at h;(dsimp only at h);obtain ⟨v1,v2⟩:=atoi_bds hA;(by_cases c1:Lib.itoa v=a0.toList)
   ·rw [if_pos c1] at h;have c1b0:(Lib.itoa v==a0.toList)=true:=beq_iff_eq.mpr c1;have c1b1:(Lib.itoa v != a0.toList)=false:=bne_eq_false_iff_eq.mpr c1;(by_cases c2:0≤v∧v≤a1)
    ·rw [if_pos c2] at h;(injection h with e1 e2);subst e1 e2;(have b2:Br.f v 0 a1=some true:=by unfold Br.f;rw [if_pos c2.1,decide_eq_true c2.2]);clear c2;go_enter Tryz.func37,Tryz.ntmps37
     go_wp2_with (first
      | ((with_reducible refine Ad (f:=68) rfl ?_);refine C8 (some 10) rfl rfl Tryz.func68 kz rfl #[.string a0] rfl itp ?_;refine (Any.strconv_Atoi_ok Ip a0 oz v hA _).mono ?_;rintro e w2 ⟨rfl,hw⟩;refine ⟨_,rfl,?_⟩;have hb:Below w.heap.size w w2:=(by rcases hw with rfl|⟨t,rfl⟩;exact Below.refl _ _;exact Mn (Below.refl _ _) (Nat.le_refl _) _ _);clear hw;have a6:=am (Gr HB.out hb);clear hb)
      | ((try (refine De (by rfl) ?_;dsimp only));(with_reducible refine Ad (f:=69) rfl ?_);refine C8 (some 17) rfl rfl Tryz.func69 kz rfl #[.int .i64 v] rfl itp ?_;refine (Any.strconv_Itoa Ik v v1 v2 _ (vup hT_.out (upW a6)).1).mono ?_;rintro e w3 ⟨rfl,k3,b0,rfl⟩;refine ⟨_,rfl,?_⟩;have a7:=am (Gr (upW a6) (Qd _ k3 b0)))
      | ((try (refine De (by rfl) ?_;dsimp only));(with_reducible refine Ad (f:=48) rfl ?_);refine C8 (some 24) rfl rfl Tryz.func48 kz rfl #[.int .i64 v,.int .i64 0,.int .i64 a1] rfl itp ?_;refine (Br.calls v 0 a1 true _ b2).mono ?_;rintro e w4 ⟨rfl,a8⟩;refine ⟨_,rfl,?_⟩;have b1:=am (show Below w.heap.size w w4 from by obtain ⟨nd,rfl⟩:=a8;exact upW a7);clear a8))
     (go_ret2);exact ⟨by first|rfl|(simp [*] <;> rfl),upW b1⟩
    ·rw [if_neg c2] at h;(injection h with e1 e2);subst e1 e2
     have b2:Br.f v 0 a1=some false:=by
      unfold Br.f;(by_cases c3:0≤v)
      ·rw [if_pos c3,decide_eq_false (fun h=>c2 ⟨c3,h⟩)]
      ·rw [if_neg c3]
     clear c2;go_enter Tryz.func37,Tryz.ntmps37
     go_wp2_with (first
      | ((with_reducible refine Ad (f:=68) rfl ?_);refine C8 (some 10) rfl rfl Tryz.func68 kz rfl #[.string a0] rfl itp ?_;refine (Any.strconv_Atoi_ok Ip a0 oz v hA _).mono ?_;rintro e w2 ⟨rfl,hw⟩;refine ⟨_,rfl,?_⟩;have hb:Below w.heap.size w w2:=(by rcases hw with rfl|⟨t,rfl⟩;exact Below.refl _ _;exact Mn (Below.refl _ _) (Nat.le_refl _) _ _);clear hw;have a6:=am (Gr HB.out hb);clear hb)
      | ((try (refine De (by rfl) ?_;dsimp only));(with_reducible refine Ad (f:=69) rfl ?_);refine C8 (some 17) rfl rfl Tryz.func69 kz rfl #[.int .i64 v] rfl itp ?_;refine (Any.strconv_Itoa Ik v v1 v2 _ (vup hT_.out (upW a6)).1).mono ?_;rintro e w3 ⟨rfl,k3,b0,rfl⟩;refine ⟨_,rfl,?_⟩;have a7:=am (Gr (upW a6) (Qd _ k3 b0)))
      | ((try (refine De (by rfl) ?_;dsimp only));(with_reducible refine Ad (f:=48) rfl ?_);refine C8 (some 24) rfl rfl Tryz.func48 kz rfl #[.int .i64 v,.int .i64 0,.int .i64 a1] rfl itp ?_;refine (Br.calls v 0 a1 false _ b2).mono ?_;rintro e w4 ⟨rfl,a8⟩;refine ⟨_,rfl,?_⟩;have b1:=am (show Below w.heap.size w w4 from by obtain ⟨nd,rfl⟩:=a8;exact upW a7);clear a8))
     (go_ret2);exact ⟨by first|rfl|(simp [*] <;> rfl),upW b1⟩
   ·rw [if_neg c1] at h;(injection h with e1 e2);subst e1 e2;(have c1b0:(Lib.itoa v==a0.toList)=false:=by simpa using c1);(have c1b1:(Lib.itoa v != a0.toList)=true:=by simpa using c1);go_enter Tryz.func37,Tryz.ntmps37
    go_wp2_with (first
      | ((with_reducible refine Ad (f:=68) rfl ?_);refine C8 (some 10) rfl rfl Tryz.func68 kz rfl #[.string a0] rfl itp ?_;refine (Any.strconv_Atoi_ok Ip a0 oz v hA _).mono ?_;rintro e w2 ⟨rfl,hw⟩;refine ⟨_,rfl,?_⟩;have hb:Below w.heap.size w w2:=(by rcases hw with rfl|⟨t,rfl⟩;exact Below.refl _ _;exact Mn (Below.refl _ _) (Nat.le_refl _) _ _);clear hw;have a6:=am (Gr HB.out hb);clear hb)
      | ((try (refine De (by rfl) ?_;dsimp only));(with_reducible refine Ad (f:=69) rfl ?_);refine C8 (some 17) rfl rfl Tryz.func69 kz rfl #[.int .i64 v] rfl itp ?_;refine (Any.strconv_Itoa Ik v v1 v2 _ (vup hT_.out (upW a6)).1).mono ?_;rintro e w3 ⟨rfl,k3,b0,rfl⟩;refine ⟨_,rfl,?_⟩;have a7:=am (Gr (upW a6) (Qd _ k3 b0))))
    (go_ret2);exact ⟨by first|rfl|(simp [*] <;> rfl),upW a7⟩
  | range =>
   rw [hA] at h;(dsimp only at h);(injection h with e1 e2);subst e1 e2;obtain ⟨_,_,⟨te,pe,hve⟩,_⟩:=hT_.out;go_enter Tryz.func37,Tryz.ntmps37
   go_wp2_with (first
    | ((with_reducible refine Ad (f:=68) rfl ?_);refine C8 (some 10) rfl rfl Tryz.func68 kz rfl #[.string a0] rfl itp ?_;refine (Any.strconv_Atoi_range_var Ip a0 oz hA te pe _ hve).mono ?_;rintro e w2 ⟨N,rfl,_,_,hb⟩;refine ⟨_,rfl,?_⟩;have a6:=am (Gr HB.out hb);clear hb))
   (go_ret2);exact ⟨by first|rfl|(simp [*] <;> rfl),upW a6⟩
  | _ =>
   rw [hA] at h;(dsimp only at h);(injection h with e1 e2);subst e1 e2;obtain ⟨_,⟨te,pe,hve⟩,_⟩:=hT_.out;go_enter Tryz.func37,Tryz.ntmps37
   go_wp2_with (first
    | ((with_reducible refine Ad (f:=68) rfl ?_);refine C8 (some 10) rfl rfl Tryz.func68 kz rfl #[.string a0] rfl itp ?_;refine (Any.strconv_Atoi_syntax_var Ip a0 oz hA te pe _ hve).mono ?_;rintro e w2 ⟨N,rfl,_,_,hb⟩;refine ⟨_,rfl,?_⟩;have a6:=am (Gr HB.out hb);clear hb))
   (go_ret2);exact ⟨by first|rfl|(simp [*] <;> rfl),upW a6⟩
 ·rw [if_neg h1] at h;cases h

/-! ### Ap: function 16 -/
mutual
def Ap.j0:Nat→List (List Int)→ByteArray→Bool→Option ((List (List Int))×Bool)
 | 0,_,_,_=>none
 | k+1,x4,x5,b7=>if b7=true then (some (([]:List (List Int)),false)) else ((strings_Split.f x5 (⟨#[41,40]⟩:ByteArray)).bind fun b3=>(Ap.l0 k x4 b3 (b3.length:Int) 0))
def Ap.l0:Nat→List (List Int)→List ByteArray→Int→Int→Option ((List (List Int))×Bool)
 | 0,_,_,_,_=>none
 | k+1,x4,a6,a7,a1=>if a1<a7 then (if 0≤a1 then (if a1<(a6.length:Int) then ((strings_Split.f (E3 ByteArray.empty a6 a1) (⟨#[44]⟩:ByteArray)).bind fun b4=>(Ap.l1 k x4 (([]:List Int)) a6 a7 a1 b4 (b4.length:Int) 0)) else (none)) else (none)) else ((Cq.f k x4).bind fun b6=>(if b6=true then (some (x4,true)) else (some (([]:List (List Int)),false))))
def Ap.l1:Nat→List (List Int)→List Int→List ByteArray→Int→Int→List ByteArray→Int→Int→Option ((List (List Int))×Bool)
 | 0,_,_,_,_,_,_,_,_=>none
 | k+1,x4,b0,a6,a7,a1,b1,b5,a8=>if a8<b5 then (if 0≤a8 then (if a8<(b1.length:Int) then ((Ez.f (E3 ByteArray.empty b1 a8) 500).bind fun b2=>(if b2.2=true then (if b0.length<17592186044416 then (Ap.l1 k x4 (b0++[b2.1]) a6 a7 a1 b1 b5 (wrap64 (a8+1))) else (none)) else (some (([]:List (List Int)),false)))) else (none)) else (none)) else (if x4.length<5864062014805 then (Ap.l0 k (x4++[b0]) a6 a7 (wrap64 (a1+1))) else (none))
end
def Ap.f (k:Nat) (a0:ByteArray):Option ((List (List Int))×Bool):=(some (([]:List (List Int)):List (List Int))).bind fun a7=>((strings_CutPrefix.f a0 (⟨#[40]⟩:ByteArray)).bind fun a6=>((strings_CutSuffix.f a6.1 (⟨#[41]⟩:ByteArray)).bind fun a1=>(if a6.2=true then (Ap.j0 k a7 a1.1 (!a1.2)) else (Ap.j0 k a7 a1.1 true))))
theorem Ap.calls (k:Nat) (a0:ByteArray) (r1:List (List Int)) (r2:Bool) (w:World) (h:Ap.f k a0=some (r1,r2)) (hT_:Ab (VT w)) :
  Calls Tryz.prog 16 #[.string a0] w fun e w'=>∃ l5:Value,e=.returned (.tuple #[l5,.bool r2])∧Kd.S (Kd.slice 3 (Kd.int .i64)) 34 w' w.heap.size (fun _=>True) l5 r1∧Below w.heap.size w w':=by
 have HB:=am (Below.refl w.heap.size w);have H:=h;clear h;unfold Ap.f at H;obtain ⟨d6,g0⟩:∃ y_:List (List Int),y_=(([]:List (List Int))):=⟨_,rfl⟩;(replace H:((strings_CutPrefix.f a0 (⟨#[40]⟩:ByteArray)).bind fun i6=>((strings_CutSuffix.f i6.1 (⟨#[41]⟩:ByteArray)).bind fun f7=>(if i6.2=true then (Ap.j0 k d6 f7.1 (!f7.2)) else (Ap.j0 k d6 f7.1 true))))=some (r1,r2):=rwH g0 H);have h8:=am g0;clear g0;obtain ⟨⟨k7,k8⟩,A2,H⟩:=bnd H;(try dsimp only at H);obtain ⟨⟨g9,k9⟩,A3,H⟩:=bnd H;(try dsimp only at H);have f5:=am H;clear H;go_enter Tryz.func16,Tryz.ntmps16;(go_upto_region 4 with (first|((with_reducible refine Ag (N:=15) rfl ?_);refine Kd.S_lit (Kd.slice 3 (Kd.int .i64)) _ 34 ?hg (N:=15) ?hd (xs:=([]:List (List Int))) (inner:=[]) (ok:=fun _=>True) (okp:=fun _=>True) ?hr ?hp (fun _ hk=>hk) trivial (Below.refl _ _) (Nat.le_refl _) (by simp) ?_;(case hd=>rfl);(case hg=>rfl);(case hr=>first|(go_simp;done)|(go_simp;rfl));(case hp=>exact (Bq.none _ _));intro n9 w5 d0 hb hg_ hnew_;clear hg_ hnew_;(first|rw [← h8.out] at d0|(simp only [Int.reduceToNat] at d0;rw [← h8.out] at d0));have h5:=am (Kd.S_lower d0 (Ae (upW HB)));replace HB:=wb HB hb;clear hb d0)|((with_reducible refine Ad (f:=34) rfl ?_);refine cgo (some 18) Tryz.func34 (strings_CutPrefix.calls a0 (⟨#[40]⟩:ByteArray) k7 k8 _ A2.out) ?_;rintro e w' ⟨rfl,⟨nd,rfl⟩⟩;refine ⟨_,rfl,?_⟩)|((with_reducible refine Ad (f:=35) rfl ?_);refine cgo (some 23) Tryz.func35 (strings_CutSuffix.calls k7 (⟨#[41]⟩:ByteArray) g9 k9 _ A3.out) ?_;rintro e w' ⟨rfl,⟨nd,rfl⟩⟩;refine ⟨_,rfl,?_⟩)));(try simp only [Act.put,List.setIfInBounds_toArray,List.set_cons_zero,List.set_cons_succ]);(go_cut [31] (fun v31 wc=>∃ (kq:Nat) (f4:Bool),v31=.bool f4∧Ab (Ap.j0 kq d6 g9 f4=some (r1,r2))∧Ab (kq≤k)∧Ab (Kd.S (Kd.slice 3 (Kd.int .i64)) 34 wc w.heap.size (fun _=>True) n9 d6)∧Ab (Below w.heap.size w wc)))
 case first =>
  have H:=f5.out;clear f5;(by_cases c7:k8=true)
  ·subst c7;replace H:=yT H;have H':=am H;clear H;go_wp2;(go_meet);(case rel=>exact ⟨_,(!k9),(eqw),H',⟨by first|omega|exact Nat.le_refl _⟩,⟨mS h5.out⟩,⟨upW HB⟩⟩)
  ·replace c7:=Bool.eq_false_iff.mpr c7;subst c7;replace H:=yF H;have H':=am H;clear H;go_wp2;(go_meet);(case rel=>exact ⟨_,(true),(eqw),H',⟨by first|omega|exact Nat.le_refl _⟩,⟨mS h5.out⟩,⟨upW HB⟩⟩)
 case rest =>
  clear f5;obtain ⟨kq,f4,rfl,HA,d7,a1,HB⟩:=hcut
  cases kq with
  | zero=>exact absurd HA.out (by simp [Ap.j0])
  | succ k5 =>
   have H:=HA.out;clear HA;simp only [Ap.j0] at H;(by_cases c8:f4=true)
   ·subst c8;replace H:=yT H;simp only [Option.some.injEq,Prod.mk.injEq] at H;obtain ⟨rfl,rfl⟩:=H;go_wp2;(go_ret2);exact ⟨_,eqv,by first|exact Kd.S_nil _ _ _ _ _|exact Kd.N_nil _ _ _ _ _|exact Kd.V_nil _ _ _ _ _|exact Kd.Q_nil _ _ _ _ _|exact Kd.R_nil _ _ _ _ _,upW HB⟩
   ·replace c8:=Bool.eq_false_iff.mpr c8;subst c8;replace H:=yF H;obtain ⟨a7,A9,H⟩:=bnd H;(try dsimp only at H);have H':=am H;clear H;(go_wp2_with (first|((with_reducible refine Ad (f:=36) rfl ?_);refine cgo (some 33) Tryz.func36 (strings_Split.calls g9 (⟨#[41,40]⟩:ByteArray) a7 _ A9.out ?sideT) ?_;(case sideT=>exact ⟨vup hT_.out (upW HB)⟩);rintro e o9 ⟨o4,rfl,b9,hb⟩;refine ⟨_,rfl,?_⟩;replace a1:=am (Kd.S_below (mS a1.out) hb);have h6:=am (Kd.R_lower b9 (Ae (upW HB)));replace HB:=wb HB hb;(try clear hb b9);obtain ⟨m0,f8,m9⟩:=Kd.R_slice h6.out;subst m9)));(try simp only [Act.put,List.setIfInBounds_toArray,List.set_cons_succ,List.set_cons_zero]);(go_loopg [4,35] k5 (fun kq v4 v35 w'=>∃ (b4:List (List Int)) (b0:Int),v35=.int .i64 b0∧Ab (Ap.l0 kq b4 a7 (a7.length:Int) b0=some (r1,r2))∧Ab (kq≤k5)∧Ab (Kd.S (Kd.slice 3 (Kd.int .i64)) 34 w' w.heap.size (fun _=>True) v4 b4)∧Ab (Kd.R Kd.string 9 w' w.heap.size (fun _=>True) (.slice m0 a7.length f8) a7)∧Ab (Below w.heap.size w w')));(case atStart=>exact ⟨(d6),(0),(eqw),H',⟨Nat.le_refl _⟩,⟨mS a1.out⟩,⟨upR h6⟩,⟨upW HB⟩⟩)
    case round =>
     clear H';obtain ⟨b4,b0,rfl,HA,d8,a1,a6,HB⟩:=hrel
     cases gk with
     | zero=>exact absurd HA.out (by simp [Ap.l0])
     | succ k2 =>
      have H:=HA.out;clear HA;simp only [Ap.l0] at H;(by_cases b8:b0<(a7.length:Int))
      ·rw [if_pos b8] at H;have c12b0:=decide_eq_true b8;clear b8;obtain ⟨i7,H⟩:=ip H;have c13b0:=decide_eq_true i7;clear i7;obtain ⟨i8,H⟩:=ip H;have c14b0:=decide_eq_true i8;clear i8;obtain ⟨l6,g2⟩:∃ y_:List Int,y_=(([]:List Int)):=⟨_,rfl⟩;(replace H:((strings_Split.f (E3 ByteArray.empty a7 b0) (⟨#[44]⟩:ByteArray)).bind fun a8=>(Ap.l1 k2 b4 l6 a7 (a7.length:Int) b0 a8 (a8.length:Int) 0))=some (r1,r2):=rwH g2 H);have h9:=am g2;clear g2;obtain ⟨a8,l9,H⟩:=bnd H;(try dsimp only at H);have H':=am H;clear H;have f2:0≤(b0:Int):=oda;have f3:b0<(a7.length:Int):=oda;obtain ⟨i1,m8,n4⟩:=Kd.at_string (Kd.R_reads' a6.out).2.2 b0 f2 f3;cases m8;replace f2:=eq_true f2;replace f3:=eq_true f3;(go_wp2_with (first|((with_reducible refine Ag (N:=39) rfl ?_);refine Kd.R_lit (Kd.int .i64) _ 3 ?hg (N:=39) ?hd (xs:=([]:List Int)) (inner:=[]) (ok:=fun _=>True) (okp:=fun _=>True) ?hr ?hp (fun _ hk=>hk) trivial (Below.refl _ _) (Nat.le_refl _) (by simp) ?_;(case hd=>rfl);(case hg=>rfl);(case hr=>first|(go_simp;done)|(go_simp;rfl));(case hp=>exact (Bq.none _ _));intro o5 p0 c1 hb hg_ hnew_;clear hg_ hnew_;(first|rw [← h9.out] at c1|(simp only [Int.reduceToNat] at c1;rw [← h9.out] at c1));replace a1:=am (Kd.S_elder' (mS a1.out) (Kd.R_base c1) hb);replace a6:=rb a6 hb;have f6:=am (Kd.R_lower c1 (Ae (upW HB)));replace HB:=wb HB hb;clear hb c1)|((with_reducible refine Ad (f:=36) rfl ?_);refine cgo (some 41) Tryz.func36 (strings_Split.calls (E3 ByteArray.empty a7 b0) (⟨#[44]⟩:ByteArray) a8 _ l9.out ?sideT) ?_;(case sideT=>exact ⟨vup hT_.out (upW HB)⟩);rintro e p1 ⟨o6,rfl,b9,hb⟩;refine ⟨_,rfl,?_⟩;replace a1:=am (Kd.S_below (mS a1.out) hb);replace f6:=rb f6 hb;have h7:=am (Kd.R_lower (Kd.R_new' b9 (Kd.R_lt (upR a6))) (Ae (upW HB)));replace a6:=am (Kd.R_elder' (upR a6) (Kd.R_base b9) hb);replace HB:=wb HB hb;(try clear hb b9);obtain ⟨h3,k1,n0⟩:=Kd.R_slice h7.out;subst n0)));(try simp only [Act.put,List.setIfInBounds_toArray,List.set_cons_succ,List.set_cons_zero]);(go_loopg [10,43] k2 (fun kq v10 n8 w'=>∃ (b5:List Int) (b1:Int),n8=.int .i64 b1∧Ab (Ap.l1 kq b4 b5 a7 (a7.length:Int) b0 a8 (a8.length:Int) b1=some (r1,r2))∧Ab (kq≤k2)∧Ab (Kd.S (Kd.slice 3 (Kd.int .i64)) 34 w' w.heap.size (fun k_=>some k_≠(v10:Value).ownBlock) u4 b4)∧Ab (Kd.R (Kd.int .i64) 3 w' w.heap.size (fun _=>True) v10 b5)∧Ab (Kd.R Kd.string 9 w' w.heap.size (fun k_=>some k_≠((.slice h3 a8.length k1):Value).ownBlock) (.slice (some i1) a7.length f8) a7)∧Ab (Kd.R Kd.string 9 w' w.heap.size (fun k_=>some k_≠((.slice (some i1) a7.length f8):Value).ownBlock) (.slice h3 a8.length k1) a8)∧Ab (Below w.heap.size w w')));(case atStart=>exact ⟨(l6),(0),(eqw),H',⟨Nat.le_refl _⟩,⟨by (with_reducible repeat (first|apply Kd.S_alloc|apply Kd.S_drewN|apply Kd.S_drew));exact Kd.S_mono a1.out (fun _ hk=>hk.2)⟩,⟨upR f6⟩,⟨by (with_reducible repeat (first|apply Kd.R_alloc|apply Kd.R_drewN|apply Kd.R_drew));exact Kd.R_mono a6.out (fun _ hk=>hk.2)⟩,⟨by (with_reducible repeat (first|apply Kd.R_alloc|apply Kd.R_drewN|apply Kd.R_drew));exact Kd.R_mono h7.out (fun _ hk=>hk.2)⟩,⟨upW HB⟩⟩)
       case round =>
        clear H';(try clear c12b0 c13b0 c14b0 n4 f2 f3);obtain ⟨b5,b1,rfl,HA,d9,a1,b3,a6,b2,HB⟩:=hrel
        cases gk with
        | zero=>exact absurd HA.out (by simp [Ap.l1])
        | succ k3 =>
         have H:=HA.out;clear HA;simp only [Ap.l1] at H;(by_cases c20:b1<(a8.length:Int))
         ·rw [if_pos c20] at H;have c20b0:=decide_eq_true c20;clear c20;obtain ⟨c21,H⟩:=ip H;have c21b0:=decide_eq_true c21;clear c21;obtain ⟨j5,H⟩:=ip H;have c22b0:=decide_eq_true j5;clear j5;obtain ⟨⟨d5,n7⟩,h0,H⟩:=bnd H;(try dsimp only at H);(by_cases f0:n7=true)
          ·subst f0;replace H:=yT H;obtain ⟨j9,H⟩:=ip H;have m3:=am j9;clear j9;obtain ⟨l7,g5⟩:∃ y_:List Int,y_=(b5++[d5]):=⟨_,rfl⟩;(replace H:(Ap.l1 k3 b4 l7 a7 (a7.length:Int) b0 a8 (a8.length:Int) (wrap64 (b1+1)))=some (r1,r2):=rwH g5 H);have m5:=am g5;clear g5;have H':=am H;clear H;have b6:0≤(b1:Int):=oda;have b7:b1<(a8.length:Int):=oda;obtain ⟨m7,f9,n5⟩:=Kd.at_string (Kd.R_reads' b2.out).2.2 b1 b6 b7;cases f9;replace b6:=eq_true b6;replace b7:=eq_true b7;(go_wp2_with (first|((with_reducible refine Ad (f:=37) rfl ?_);refine cgo (some 49) Tryz.func37 (Ez.calls (E3 ByteArray.empty a8 b1) 500 d5 true _ h0.out ?sideT) ?_;(case sideT=>exact ⟨vup hT_.out (upW HB)⟩);rintro e p2 ⟨rfl,hb⟩;refine ⟨_,rfl,?_⟩;replace a1:=am (Kd.S_below (mS a1.out) hb);replace b3:=rb b3 hb;replace a6:=rb a6 hb;replace b2:=rb b2 hb;replace HB:=wb HB hb;(try clear hb))|((with_reducible refine Cx (b:=.append) (xs := #[.tmp 54,.tmp 56]) rfl ?_);at_builtin;refine Kd.R_append (Kd.int .i64) (w0:=w) w.heap.size rfl (.tmp 54) (.tmp 56) 34 3 (.int .i64 0) 8 rfl Tryz.underlying34 J3 rfl zd oz u10 b5 d5 [.int .i64 d5] (fun _=>True) (fun _=>False) rfl rfl ?aP (fun _ hk=>hk.elim) ?aF ?aO ?aB ?aS ?aL ?_;(case aP=>exact rfl);(case aB=>exact (upW HB));(case aF=>exact (fun _ _=>trivial));(case aO=>exact (upR b3));(case aS=>exact (Ae (upW HB)));(case aL=>have:=m3.out;omega);intro o7 p3 ho hb hg hat;rw [← m5.out] at ho;have d1:=am (Kd.S_after (ok:=(fun _=>True)) (by (with_reducible repeat (first|apply Kd.S_alloc|apply Kd.S_drewN|apply Kd.S_drew));exact Kd.S_mono a1.out (fun _ hk=>⟨trivial,hk⟩)) hg hat);have d2:=am (Kd.R_over' (upR a6) (Kd.R_typed (upR b3)) zd hg);have d3:=am (Kd.R_over' (upR b2) (Kd.R_typed (upR b3)) zd hg);have d4:=am (hb);have k6:=am (ho);clear a1;clear a6;clear b2;clear HB;clear b3;have a1:=d1;have a6:=d2;have b2:=d3;have HB:=d4;have m1:=k6;clear d1 d2 d3 d4 k6;clear ho hb hg hat)));go_roundg k3;(case measure=>have:=d7.out;have:=d8.out;have:=d9.out;omega);(case rel=>exact ⟨(l7),(wrap64 (b1+1)),(eqw),H',⟨by have:=d7.out;have:=d8.out;have:=d9.out;omega⟩,⟨by (with_reducible repeat (first|apply Kd.S_alloc|apply Kd.S_drewN|apply Kd.S_drew));exact Kd.S_mono a1.out (fun _ hk=>hk.2)⟩,⟨upR m1⟩,⟨upR a6⟩,⟨upR b2⟩,⟨upW HB⟩⟩)
          ·replace f0:=Bool.eq_false_iff.mpr f0;subst f0;replace H:=yF H;simp only [Option.some.injEq,Prod.mk.injEq] at H;obtain ⟨rfl,rfl⟩:=H;have b6:0≤(b1:Int):=oda;have b7:b1<(a8.length:Int):=oda;obtain ⟨m7,f9,n5⟩:=Kd.at_string (Kd.R_reads' b2.out).2.2 b1 b6 b7;cases f9;replace b6:=eq_true b6;replace b7:=eq_true b7;(go_wp2_with (first|((with_reducible refine Ad (f:=37) rfl ?_);refine cgo (some 49) Tryz.func37 (Ez.calls (E3 ByteArray.empty a8 b1) 500 d5 false _ h0.out ?sideT) ?_;(case sideT=>exact ⟨vup hT_.out (upW HB)⟩);rintro e p4 ⟨rfl,hb⟩;refine ⟨_,rfl,?_⟩;replace a1:=am (Kd.S_below (mS a1.out) hb);replace b3:=rb b3 hb;replace a6:=rb a6 hb;replace b2:=rb b2 hb;replace HB:=wb HB hb;(try clear hb))));(go_ret2);exact ⟨_,eqv,by first|exact Kd.S_nil _ _ _ _ _|exact Kd.N_nil _ _ _ _ _|exact Kd.V_nil _ _ _ _ _|exact Kd.Q_nil _ _ _ _ _|exact Kd.R_nil _ _ _ _ _,upW HB⟩
         ·rw [if_neg c20] at H;have c20b0:=decide_eq_false c20;clear c20;obtain ⟨k0,H⟩:=ip H;have m4:=am k0;clear k0;obtain ⟨l8,g6⟩:∃ y_:List (List Int),y_=(b4++[b5]):=⟨_,rfl⟩;(replace H:(Ap.l0 k3 l8 a7 (a7.length:Int) (wrap64 (b0+1)))=some (r1,r2):=rwH g6 H);have m6:=am g6;clear g6;have H':=am H;clear H;obtain ⟨h4,k4,n1⟩:=Kd.R_slice b3.out;subst n1;(go_wp2_with (first|((with_reducible refine Cx (b:=.append) (xs := #[.tmp 59,.tmp 61]) rfl ?_);at_builtin;refine Kd.S_append (Kd.slice 3 (Kd.int .i64)) (w0:=w) w.heap.size rfl (.tmp 59) (.tmp 61) 22 34 (.slice none 0 0) 24 rfl Tryz.underlying22 Kj rfl zd oz u4 b4 b5 [.slice h4 b5.length k4] (fun _=>True) (fun k_=>some k_=(.slice h4 b5.length k4:Value).ownBlock) rfl rfl ?aP (fun k_ hk_=>((Kd.R_mono (ok':=fun k_=>((fun _=>True)) k_∧some k_≠(u4:Value).ownBlock) (Kd.R_apart' (b3.out) (Kd.S_typed a1.out) zd) (fun k_ hk=>⟨trivial,hk.2⟩))).1 k_ hk_.symm) ?aF ?aO ?aB ?aS ?aL ?_;(case aP=>exact Kd.M_row (Kd.R_mono (Kd.R_tight rfl (Kd.R_mono (ok':=fun k_=>((fun _=>True)) k_∧some k_≠(u4:Value).ownBlock) (Kd.R_apart' (b3.out) (Kd.S_typed a1.out) zd) (fun k_ hk=>⟨trivial,hk.2⟩))) (fun _ h_=>h_)));(case aB=>exact (upW HB));(case aF=>exact (fun _ _=>trivial));(case aO=>exact (by (with_reducible repeat (first|apply Kd.S_alloc|apply Kd.S_drewN|apply Kd.S_drew));exact Kd.S_mono a1.out (fun k_ hk=>⟨trivial,fun e_=>hk e_⟩)));(case aS=>exact (Ae (upW HB)));(case aL=>have:=m4.out;omega);intro o8 p5 ho hb hg hat;rw [← m6.out] at ho;have d1:=am (Kd.R_over' (upR a6) (Kd.S_typed (mS a1.out)) zd hg);have d2:=am (Kd.R_over' (upR b2) (Kd.S_typed (mS a1.out)) zd hg);have d3:=am (hb);have d4:=am (ho);clear a6;clear b2;clear HB;clear a1;clear b3;have a6:=d1;have b2:=d2;have HB:=d3;have m2:=d4;clear d1 d2 d3 d4;clear ho hb hg hat)));go_roundg k3;(case measure=>have:=d7.out;have:=d8.out;have:=d9.out;omega);(case rel=>exact ⟨(l8),(wrap64 (b0+1)),(eqw),H',⟨by have:=d7.out;have:=d8.out;have:=d9.out;omega⟩,⟨mS m2.out⟩,⟨by (with_reducible repeat (first|apply Kd.R_alloc|apply Kd.R_drewN|apply Kd.R_drew));exact Kd.R_mono a6.out (fun _ hk=>trivial)⟩,⟨upW HB⟩⟩)
      ·rw [if_neg b8] at H;have c12b0:=decide_eq_false b8;clear b8;obtain ⟨n6,h2,H⟩:=bnd H;(try dsimp only at H);(by_cases f1:n6=true)
       ·subst f1;replace H:=yT H;simp only [Option.some.injEq,Prod.mk.injEq] at H;obtain ⟨rfl,rfl⟩:=H;obtain ⟨o0,o2,n2⟩:=Kd.S_slice a1.out;subst n2;(go_wp2_with (first|((with_reducible refine Ad (f:=15) rfl ?_);refine cgo (some 65) Tryz.func15 (Cq.calls k2 _ _ b4 true _ ?g7 ?g8 h2.out) ?_;(case g7=>exact upC (Kd.S_reads' a1.out).2.2);(case g8=>exact (Kd.S_reads' a1.out).2.1);rintro e p6 ⟨rfl,hb⟩;refine ⟨_,rfl,?_⟩;replace a1:=am (Kd.S_below (mS a1.out) hb);replace a6:=rb a6 hb;replace HB:=wb HB hb;(try clear hb))));(go_ret2);exact ⟨_,eqv,mS a1.out,upW HB⟩
       ·replace f1:=Bool.eq_false_iff.mpr f1;subst f1;replace H:=yF H;simp only [Option.some.injEq,Prod.mk.injEq] at H;obtain ⟨rfl,rfl⟩:=H;obtain ⟨o1,o3,n3⟩:=Kd.S_slice a1.out;subst n3;(go_wp2_with (first|((with_reducible refine Ad (f:=15) rfl ?_);refine cgo (some 65) Tryz.func15 (Cq.calls k2 _ _ b4 false _ ?g7 ?g8 h2.out) ?_;(case g7=>exact upC (Kd.S_reads' a1.out).2.2);(case g8=>exact (Kd.S_reads' a1.out).2.1);rintro e p7 ⟨rfl,hb⟩;refine ⟨_,rfl,?_⟩;replace a1:=am (Kd.S_below (mS a1.out) hb);replace a6:=rb a6 hb;replace HB:=wb HB hb;(try clear hb))));(go_ret2);exact ⟨_,eqv,by first|exact Kd.S_nil _ _ _ _ _|exact Kd.N_nil _ _ _ _ _|exact Kd.V_nil _ _ _ _ _|exact Kd.Q_nil _ _ _ _ _|exact Kd.R_nil _ _ _ _ _,upW HB⟩

/-! ### Du: function 17 -/
def Du.l0:Nat→List Int→List (List Int)→Int→Int→Option (List Int)
 | 0,_,_,_,_=>none
 | k+1,x3,x6,x7,x8=>if x8<x7 then (if 0≤x8 then (if x8<(x6.length:Int) then (if x3.length+(Bc x6 x8).length<17592186044416 then (Du.l0 k (x3++(Bc x6 x8)) x6 x7 (wrap64 (x8+1))) else (none)) else (none)) else (none)) else (some x3)
def Du.f (k:Nat) (l0:List (List Int)):Option (List Int):=Du.l0 k ([]:List Int) l0 (l0.length:Int) 0
theorem Du.calls (k:Nat) (A0:Option Addr) (c0:Nat) (l0:List (List Int)) (r:List Int) (w:World) (b6:Kd.C (Kd.slice 3 (Kd.int .i64)) w A0 l0.length l0) (b3:l0.length≤c0) (h:Du.f k l0=some r) :
  Calls Tryz.prog 17 #[.slice A0 l0.length c0] w fun e w'=>∃ c1:Value,e=.returned (c1)∧Kd.R (Kd.int .i64) 3 w' w.heap.size (fun _=>True) c1 r∧Below w.heap.size w w':=by
 have d2:=am b6;have d8:=am b3;clear b6 b3;have HB:=am (Below.refl w.heap.size w);have H:=h;clear h;unfold Du.f at H;have H':=am H;clear H;go_enter Tryz.func17,Tryz.ntmps17;go_wp2;(go_loopg [3,8] k (fun kq v3 v8 w'=>∃ (a6:List Int) (a1:Int),v8=.int .i64 a1∧Ab (Du.l0 kq a6 l0 (l0.length:Int) a1=some r)∧Ab (kq≤k)∧Ab (Kd.R (Kd.int .i64) 3 w' w.heap.size (fun _=>True) v3 a6)∧Ab (Below w.heap.size w w')));(case atStart=>exact ⟨(([]:List Int)),(0),(eqw),H',⟨Nat.le_refl _⟩,⟨nz⟩,⟨upW HB⟩⟩)
 case round =>
  clear H';obtain ⟨a6,a1,rfl,HA,b2,a7,HB⟩:=hrel
  cases gk with
  | zero=>exact absurd HA.out (by simp [Du.l0])
  | succ k1 =>
   have H:=HA.out;clear HA;simp only [Du.l0] at H;(by_cases c2:a1<(l0.length:Int))
   ·rw [if_pos c2] at H;have c2b0:=decide_eq_true c2;clear c2;obtain ⟨c3,H⟩:=ip H;have c3b0:=decide_eq_true c3;clear c3;obtain ⟨c4,H⟩:=ip H;have c4b0:=decide_eq_true c4;clear c4;obtain ⟨c5,H⟩:=ip H;have d4:=am c5;clear c5;obtain ⟨d0,a8⟩:∃ y_:List Int,y_=(a6++(Bc l0 a1)):=⟨_,rfl⟩;(replace H:(Du.l0 k1 d0 l0 (l0.length:Int) (wrap64 (a1+1)))=some r:=rwH a8 H);have d5:=am a8;clear a8;have H':=am H;clear H;have b0:0≤(a1:Int):=oda;have b1:a1<(l0.length:Int):=oda;obtain ⟨f0,d7,f1,d6,b7,b5,b4⟩:=E4 d2.out a1 b0 b1;cases d6;replace b7:=cb HB b7;have d3:=am b4;have d9:=am b5;clear b4 b5;replace b0:=eq_true b0;replace b1:=eq_true b1;(go_wp2_with (first|((with_reducible refine Cx (b:=.append) (xs := #[.tmp 12,.tmp 13]) rfl ?_);at_builtin;refine Kd.R_append_rows (Kd.int .i64) (w0:=w) w.heap.size rfl (.tmp 12) (.tmp 13) 34 3 (.int .i64 0) 8 rfl Tryz.underlying34 J3 rfl zd oz u3 a6 (Bc l0 a1) _ _ _ (fun _=>True) (fun _=>False) rfl rfl ?aO ?aR (fun _ _ h=>h) (fun _ h=>h.elim) ?aF ?aB ?aS ?aL ?_;(case aR=>repeat (first|exact (Kd.C_below d3.out HB.out)|(with_reducible refine Kd.C_alloc ?_ _)|(with_reducible refine Kd.C_drewN ?_ _)|(with_reducible refine Kd.C_drew ?_)));(case aB=>exact (upW HB));(case aF=>exact (fun _ _=>trivial));(case aO=>exact (upR a7));(case aS=>exact (Ae (upW HB)));(case aL=>have:=d4.out;omega);intro f2 w6 ho hb hg hat;rw [← d5.out] at ho;have b8:=am (hb);have b9:=am (ho);clear HB;clear a7;have HB:=b8;have d1:=b9;clear b8 b9;clear ho hb hg hat)));go_roundg k1;(case measure=>have:=b2.out;omega);(case rel=>exact ⟨(d0),(wrap64 (a1+1)),(eqw),H',⟨by have:=b2.out;omega⟩,⟨upR d1⟩,⟨upW HB⟩⟩)
   ·rw [if_neg c2] at H;have c2b0:=decide_eq_false c2;clear c2;obtain rfl:=Option.some.inj H;go_wp2;go_ret;exact ⟨_,eqv,mR a7.out,upW HB⟩

-- left to its places: function 70 (E8)

end Go.Proofs.YtgeahghdikdamaaGreatDoor.PFnCodesTurnedOfAll
