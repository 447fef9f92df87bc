-- made for this claim by a program of this session
import Derived.Test.YtnmaeekclpmmnaaDoorPFnExactParseNetx0
import Derived.Test.YtnmaeekclpmmnaaDoorPFnExactParseNetx4
namespace Go.Proofs.YtnmaeekclpmmnaaDoor.PFnExactParseNet
open Go.RowKit Go.Proofs.YtnmaeekclpmmnaaDoorW.PrintWords Go.Proofs.YtnmaeekclpmmnaaDoorW.PrintLast Go.Proofs.YtnmaeekclpmmnaaDoorW.PrintMore
attribute [local go_sem] max2_int min2_int max_two min_two max_three min_three max_four min_four   -- for this text's walks alone
set_option linter.unusedVariables false
set_option linter.unusedSimpArgs false

/-! ### strings_Cut: function 16 -/
def strings_Cut_lay_ren : Go.Shelf.Ren := ⟨fun | 145 => 16 | 220 => 33 | 219 => 52 | 217 => 62 | 225 => 63 | 224 => 64 | 267 => 65 | 266 => 76 | 314 => 77 | n => n, fun | 9 => 9 | 4 => 4 | 59 => 37 | 3 => 3 | 5 => 5 | 46 => 84 | 146 => 96 | 51 => 95 | n => n, fun | 1 => 0 | n => n⟩
theorem strings_Cut_lay : Go.Proofs.Lays.n145 Tryd.prog strings_Cut_lay_ren where
 mixed := by kernel_rfl
 f145 := Tryd.func16.trans (congrArg some (by kernel_rfl))
 f217 := Tryd.func62.trans (congrArg some (by kernel_rfl))
 f219 := Tryd.func52.trans (congrArg some (by kernel_rfl))
 f220 := Tryd.func33.trans (congrArg some (by kernel_rfl))
 f224 := Tryd.func64.trans (congrArg some (by kernel_rfl))
 f225 := Tryd.func63.trans (congrArg some (by kernel_rfl))
 f266 := Tryd.func76.trans (congrArg some (by kernel_rfl))
 f267 := Tryd.func65.trans (congrArg some (by kernel_rfl))
 f314 := Tryd.func77.trans (congrArg some (by kernel_rfl))
 t3 := Tryd.underlying3
 a3 := Tryd.isAgg3
 z3 := Tryd.sizeOf3
 v3 := Tryd.zeroValue3
 t4 := Tryd.underlying4
 a4 := Tryd.isAgg4
 z4 := Tryd.sizeOf4
 v4 := Tryd.zeroValue4
 t5 := Tryd.underlying5
 a5 := Tryd.isAgg5
 z5 := Tryd.sizeOf5
 v5 := Tryd.zeroValue5
 t9 := Tryd.underlying9
 a9 := Tryd.isAgg9
 z9 := Tryd.sizeOf9
 v9 := Tryd.zeroValue9
 t46 := Tryd.underlying84
 a46 := Tryd.isAgg84
 z46 := Tryd.sizeOf84
 v46 := Tryd.zeroValue84
 t51 := Tryd.underlying95
 a51 := Tryd.isAgg95
 z51 := Tryd.sizeOf95
 v51 := Tryd.zeroValue95
 t59 := Tryd.underlying37
 a59 := Tryd.isAgg37
 z59 := Tryd.sizeOf37
 v59 := Tryd.zeroValue37
 t146 := Tryd.underlying96
 a146 := Tryd.isAgg96
 z146 := Tryd.sizeOf96
 v146 := Tryd.zeroValue96
 g1 := by kernel_rfl
def strings_Cut.f (s sep : ByteArray) : Option (ByteArray × ByteArray × Bool) := if s.size ≤ 2000000 then some (⟨(Lib.cut s.data.toList sep.data.toList).1.toArray⟩, ⟨(Lib.cut s.data.toList sep.data.toList).2.1.toArray⟩, (Lib.cut s.data.toList sep.data.toList).2.2) else none
theorem strings_Cut.calls (s sep : ByteArray) (r1 r2 : ByteArray) (r3 : Bool) (w : World) (h : strings_Cut.f s sep = some (r1, r2, r3)) (hT_ : Aside0 (VT w)) :
  Calls Tryd.prog 16 #[.string s, .string sep] w fun e w' => e = .returned (.tuple #[.string r1, .string r2, .bool r3]) ∧ Drawn0 w w' := by
 unfold strings_Cut.f at h;(by_cases h1 : s.size ≤ 2000000)
 ·rw [if_pos h1] at h;have h := Option.some.inj h;simp only [Prod.mk.injEq] at h;obtain ⟨rfl, rfl, rfl⟩ := h;obtain ⟨_, _, _, m, hm⟩ := hT_.out;refine (Any.strings_Cut strings_Cut_lay s sep m w (by omega) hm).mono ?_;rintro e w' ⟨rfl, n, rfl⟩;exact ⟨rfl, n, rfl⟩
 ·rw [if_neg h1] at h;cases h

-- NOT PRINTED: function 86 (strconv_lower)

-- NOT PRINTED: function 87 (strconv_underscoreOK)

-- NOT PRINTED: function 78 (strconv_ParseUint)

-- NOT PRINTED: function 66 (strconv_ParseInt)

-- NOT PRINTED: function 53 (strconv_Atoi_53)

-- NOT PRINTED: function 79 (stringslite_Clone)

-- NOT PRINTED: function 67 (strconv_syntaxError)

-- NOT PRINTED: function 68 (strconv_rangeError)

-- NOT PRINTED: function 81 (strconv_small)

-- NOT PRINTED: function 88 (strconv_log10Pow2)

-- NOT PRINTED: function 89 (bits_Len64)

-- NOT PRINTED: function 90 (strconv_bool2_int)

-- NOT PRINTED: function 82 (strconv_numDigits)

-- NOT PRINTED: function 83 (strconv_formatBase10)

-- NOT PRINTED: function 91 (strconv_isPowerOfTwo)

-- NOT PRINTED: function 93 (bits_TrailingZeros32)

-- NOT PRINTED: function 94 (bits_TrailingZeros64)

-- NOT PRINTED: function 92 (bits_TrailingZeros)

-- NOT PRINTED: function 84 (strconv_formatBits)

-- NOT PRINTED: function 71 (strconv_FormatInt)

-- NOT PRINTED: function 55 (strconv_Itoa_55)

/-! ### strconv_Itoa_35: function 35 -/
def strconv_Itoa_35_lay_ren : Go.Shelf.Ren := ⟨fun | 171 => 35 | 243 => 55 | 246 => 71 | 283 => 81 | 284 => 82 | 285 => 83 | 286 => 84 | 129 => 89 | 317 => 88 | 318 => 90 | 319 => 91 | 320 => 92 | 337 => 93 | 338 => 94 | n => n, fun | 3 => 3 | 9 => 9 | 2 => 2 | 4 => 4 | 171 => 105 | 0 => 0 | 53 => 98 | 37 => 81 | 5 => 5 | 173 => 108 | 212 => 116 | 51 => 95 | 20 => 20 | 213 => 117 | 46 => 84 | 232 => 124 | 233 => 125 | n => n, fun | 17 => 3 | 18 => 6 | 19 => 7 | n => n⟩
theorem strconv_Itoa_35_lay : Go.Proofs.LaysM.n171 Tryd.prog strconv_Itoa_35_lay_ren where
 mixed := by kernel_rfl
 f129 := Tryd.func89.trans (congrArg some (by kernel_rfl))
 f171 := Tryd.func35.trans (congrArg some (by kernel_rfl))
 f243 := Tryd.func55.trans (congrArg some (by kernel_rfl))
 f246 := Tryd.func71.trans (congrArg some (by kernel_rfl))
 f283 := Tryd.func81.trans (congrArg some (by kernel_rfl))
 f284 := Tryd.func82.trans (congrArg some (by kernel_rfl))
 f285 := Tryd.func83.trans (congrArg some (by kernel_rfl))
 f286 := Tryd.func84.trans (congrArg some (by kernel_rfl))
 f317 := Tryd.func88.trans (congrArg some (by kernel_rfl))
 f318 := Tryd.func90.trans (congrArg some (by kernel_rfl))
 f319 := Tryd.func91.trans (congrArg some (by kernel_rfl))
 f320 := Tryd.func92.trans (congrArg some (by kernel_rfl))
 f337 := Tryd.func93.trans (congrArg some (by kernel_rfl))
 f338 := Tryd.func94.trans (congrArg some (by kernel_rfl))
 t0 := Tryd.underlying0
 a0 := Tryd.isAgg0
 z0 := Tryd.sizeOf0
 v0 := Tryd.zeroValue0
 t2 := Tryd.underlying2
 a2 := Tryd.isAgg2
 z2 := Tryd.sizeOf2
 v2 := Tryd.zeroValue2
 t3 := Tryd.underlying3
 a3 := Tryd.isAgg3
 z3 := Tryd.sizeOf3
 v3 := Tryd.zeroValue3
 t4 := Tryd.underlying4
 a4 := Tryd.isAgg4
 z4 := Tryd.sizeOf4
 v4 := Tryd.zeroValue4
 t5 := Tryd.underlying5
 a5 := Tryd.isAgg5
 z5 := Tryd.sizeOf5
 v5 := Tryd.zeroValue5
 t9 := Tryd.underlying9
 a9 := Tryd.isAgg9
 z9 := Tryd.sizeOf9
 v9 := Tryd.zeroValue9
 t20 := Tryd.underlying20
 a20 := Tryd.isAgg20
 z20 := Tryd.sizeOf20
 v20 := Tryd.zeroValue20
 t37 := Tryd.underlying81
 a37 := Tryd.isAgg81
 z37 := Tryd.sizeOf81
 v37 := Tryd.zeroValue81
 t46 := Tryd.underlying84
 a46 := Tryd.isAgg84
 z46 := Tryd.sizeOf84
 v46 := Tryd.zeroValue84
 t51 := Tryd.underlying95
 a51 := Tryd.isAgg95
 z51 := Tryd.sizeOf95
 v51 := Tryd.zeroValue95
 t53 := Tryd.underlying98
 a53 := Tryd.isAgg98
 z53 := Tryd.sizeOf98
 v53 := Tryd.zeroValue98
 t171 := Tryd.underlying105
 a171 := Tryd.isAgg105
 z171 := Tryd.sizeOf105
 v171 := Tryd.zeroValue105
 t173 := Tryd.underlying108
 a173 := Tryd.isAgg108
 z173 := Tryd.sizeOf108
 v173 := Tryd.zeroValue108
 t212 := Tryd.underlying116
 a212 := Tryd.isAgg116
 z212 := Tryd.sizeOf116
 v212 := Tryd.zeroValue116
 t213 := Tryd.underlying117
 a213 := Tryd.isAgg117
 z213 := Tryd.sizeOf117
 t232 := Tryd.underlying124
 a232 := Tryd.isAgg124
 z232 := Tryd.sizeOf124
 v232 := Tryd.zeroValue124
 t233 := Tryd.underlying125
 a233 := Tryd.isAgg125
 z233 := Tryd.sizeOf125
 v233 := Tryd.zeroValue125
 g17 := by kernel_rfl
 g18 := by kernel_rfl
 g19 := by kernel_rfl
 i0 := by kernel_rfl
 i2 := by kernel_rfl
 i3 := by kernel_rfl
 i4 := by kernel_rfl
 i5 := by kernel_rfl
 i9 := by kernel_rfl
 i20 := by kernel_rfl
 i37 := by kernel_rfl
 i46 := by kernel_rfl
 i51 := by kernel_rfl
 i53 := by kernel_rfl
 i171 := by kernel_rfl
 i173 := by kernel_rfl
 i212 := by kernel_rfl
 i232 := by kernel_rfl
 i233 := by kernel_rfl
 m17 := by kernel_rfl
 m18 := by kernel_rfl
 m19 := by kernel_rfl
def strconv_Itoa_35.f (a0 : Int) : Option ByteArray := if 0 ≤ a0 ∧ a0 < 1000000 then some ⟨(Lib.decDigits a0.toNat).toArray⟩ else none
theorem strconv_Itoa_35.calls (a0 : Int) (r : ByteArray) (w : World) (h : strconv_Itoa_35.f a0 = some r) (hT_ : Aside0 (VT w)) :
  Calls Tryd.prog 35 #[.int .i64 a0] w fun e w' => e = .returned (.string r) ∧ Below w.heap.size w w' := by
 unfold strconv_Itoa_35.f at h;(by_cases h1 : 0 ≤ a0 ∧ a0 < 1000000)
 ·rw [if_pos h1] at h;obtain rfl := Option.some.inj h;refine (Any.strconv_Itoa strconv_Itoa_35_lay a0 (by omega) (by omega) w hT_.out.1).mono ?_;rintro e w' ⟨rfl, k, os, rfl⟩;refine ⟨?_, vt_grow w k os⟩;unfold Lib.itoa;rw [if_neg (by omega)]
 ·rw [if_neg h1] at h;cases h

-- NOT PRINTED: function 80 (errors_New)

-- NOT PRINTED: function 69 (strconv_baseError)

-- NOT PRINTED: function 70 (strconv_bitSizeError)

-- NOT PRINTED: function 54 (strconv_toError)

-- NOT PRINTED: function 34 (strconv_Atoi_34)

/-! ### impl_within: function 36 -/
def impl_within.f (a0 : Int) (a1 : Int) (a2 : Int) : Option (Bool) := if a1 ≤ a0 then (some (decide (a0 ≤ a2))) else (some false)
set_option maxHeartbeats 8000000 in
set_option maxRecDepth 100000 in
theorem impl_within.calls (a0 : Int) (a1 : Int) (a2 : Int) (r : Bool) (w : World) (h : impl_within.f a0 a1 a2 = some r) :
  Calls Tryd.prog 36 #[.int .i64 a0, .int .i64 a1, .int .i64 a2] w fun e w' => e = .returned (.bool r) ∧ Drawn0 w w' := by
 have H : (if a1 ≤ a0 then (some (decide (a0 ≤ a2))) else (some false)) = some r := h;clear h;(by_cases c4 : a1 ≤ a0)
 ·rw [if_pos c4] at H;have c4b0 : decide (a1 ≤ a0) = true := decide_eq_true c4;clear c4;obtain rfl := Option.some.inj H;go_enter Tryd.func36, Tryd.ntmps36;go_wp2;go_ret;exact ⟨by first | rfl | (simp; done) | (simp [*]; done), by repeat (first | exact Drawn0.refl _ | apply Drawn0.step)⟩
 ·rw [if_neg c4] at H;have c4b0 : decide (a1 ≤ a0) = false := decide_eq_false c4;clear c4;obtain rfl := Option.some.inj H;go_enter Tryd.func36, Tryd.ntmps36;go_wp2;go_ret;exact ⟨by first | rfl | (simp; done) | (simp [*]; done), by repeat (first | exact Drawn0.refl _ | apply Drawn0.step)⟩

/-! ### impl_number: function 17 -/
def impl_number_lay_ren : Go.Shelf.Ren := ⟨fun | 172 => 34 | 244 => 53 | 245 => 54 | 247 => 66 | 279 => 67 | 280 => 68 | 281 => 69 | 282 => 70 | 287 => 78 | 316 => 79 | 171 => 35 | 205 => 80 | 321 => 86 | 322 => 87 | 243 => 55 | 246 => 71 | 283 => 81 | 284 => 82 | 285 => 83 | 286 => 84 | 129 => 89 | 317 => 88 | 318 => 90 | 319 => 91 | 320 => 92 | 337 => 93 | 338 => 94 | n => n, fun | 9 => 9 | 3 => 3 | 75 => 61 | 76 => 62 | 4 => 4 | 5 => 5 | 167 => 85 | 37 => 81 | 0 => 0 | 85 => 86 | 2 => 2 | 168 => 88 | 53 => 98 | 175 => 99 | 46 => 84 | 210 => 103 | 127 => 111 | 145 => 114 | 143 => 112 | 21 => 21 | 171 => 105 | 173 => 108 | 212 => 116 | 51 => 95 | 20 => 20 | 213 => 117 | 232 => 124 | 233 => 125 | 80 => 126 | n => n, fun | 15 => 1 | 16 => 2 | 17 => 3 | 18 => 6 | 19 => 7 | n => n⟩
theorem impl_number_lay : Go.Proofs.LaysC.n172 Tryd.prog impl_number_lay_ren where
 mixed := by kernel_rfl
 f129 := Tryd.func89.trans (congrArg some (by kernel_rfl))
 f171 := Tryd.func35.trans (congrArg some (by kernel_rfl))
 f172 := Tryd.func34.trans (congrArg some (by kernel_rfl))
 f205 := Tryd.func80.trans (congrArg some (by kernel_rfl))
 f243 := Tryd.func55.trans (congrArg some (by kernel_rfl))
 f244 := Tryd.func53.trans (congrArg some (by kernel_rfl))
 f245 := Tryd.func54.trans (congrArg some (by kernel_rfl))
 f246 := Tryd.func71.trans (congrArg some (by kernel_rfl))
 f247 := Tryd.func66.trans (congrArg some (by kernel_rfl))
 f279 := Tryd.func67.trans (congrArg some (by kernel_rfl))
 f280 := Tryd.func68.trans (congrArg some (by kernel_rfl))
 f281 := Tryd.func69.trans (congrArg some (by kernel_rfl))
 f282 := Tryd.func70.trans (congrArg some (by kernel_rfl))
 f283 := Tryd.func81.trans (congrArg some (by kernel_rfl))
 f284 := Tryd.func82.trans (congrArg some (by kernel_rfl))
 f285 := Tryd.func83.trans (congrArg some (by kernel_rfl))
 f286 := Tryd.func84.trans (congrArg some (by kernel_rfl))
 f287 := Tryd.func78.trans (congrArg some (by kernel_rfl))
 f316 := Tryd.func79.trans (congrArg some (by kernel_rfl))
 f317 := Tryd.func88.trans (congrArg some (by kernel_rfl))
 f318 := Tryd.func90.trans (congrArg some (by kernel_rfl))
 f319 := Tryd.func91.trans (congrArg some (by kernel_rfl))
 f320 := Tryd.func92.trans (congrArg some (by kernel_rfl))
 f321 := Tryd.func86.trans (congrArg some (by kernel_rfl))
 f322 := Tryd.func87.trans (congrArg some (by kernel_rfl))
 f337 := Tryd.func93.trans (congrArg some (by kernel_rfl))
 f338 := Tryd.func94.trans (congrArg some (by kernel_rfl))
 t0 := Tryd.underlying0
 a0 := Tryd.isAgg0
 z0 := Tryd.sizeOf0
 v0 := Tryd.zeroValue0
 t2 := Tryd.underlying2
 a2 := Tryd.isAgg2
 z2 := Tryd.sizeOf2
 v2 := Tryd.zeroValue2
 t3 := Tryd.underlying3
 a3 := Tryd.isAgg3
 z3 := Tryd.sizeOf3
 v3 := Tryd.zeroValue3
 t4 := Tryd.underlying4
 a4 := Tryd.isAgg4
 z4 := Tryd.sizeOf4
 v4 := Tryd.zeroValue4
 t5 := Tryd.underlying5
 a5 := Tryd.isAgg5
 z5 := Tryd.sizeOf5
 v5 := Tryd.zeroValue5
 t9 := Tryd.underlying9
 a9 := Tryd.isAgg9
 z9 := Tryd.sizeOf9
 v9 := Tryd.zeroValue9
 t20 := Tryd.underlying20
 a20 := Tryd.isAgg20
 z20 := Tryd.sizeOf20
 v20 := Tryd.zeroValue20
 t21 := Tryd.underlying21
 a21 := Tryd.isAgg21
 z21 := Tryd.sizeOf21
 v21 := Tryd.zeroValue21
 t37 := Tryd.underlying81
 a37 := Tryd.isAgg81
 z37 := Tryd.sizeOf81
 v37 := Tryd.zeroValue81
 t46 := Tryd.underlying84
 a46 := Tryd.isAgg84
 z46 := Tryd.sizeOf84
 v46 := Tryd.zeroValue84
 t51 := Tryd.underlying95
 a51 := Tryd.isAgg95
 z51 := Tryd.sizeOf95
 v51 := Tryd.zeroValue95
 t53 := Tryd.underlying98
 a53 := Tryd.isAgg98
 z53 := Tryd.sizeOf98
 v53 := Tryd.zeroValue98
 t75 := Tryd.underlying61
 a75 := Tryd.isAgg61
 z75 := Tryd.sizeOf61
 v75 := Tryd.zeroValue61
 t76 := Tryd.underlying62
 a76 := Tryd.isAgg62
 z76 := Tryd.sizeOf62
 v76 := Tryd.zeroValue62
 t85 := Tryd.underlying86
 a85 := Tryd.isAgg86
 z85 := Tryd.sizeOf86
 v85 := Tryd.zeroValue86
 t127 := Tryd.underlying111
 a127 := Tryd.isAgg111
 z127 := Tryd.sizeOf111
 v127 := Tryd.zeroValue111
 t143 := Tryd.underlying112
 a143 := Tryd.isAgg112
 z143 := Tryd.sizeOf112
 v143 := Tryd.zeroValue112
 t145 := Tryd.underlying114
 a145 := Tryd.isAgg114
 z145 := Tryd.sizeOf114
 v145 := Tryd.zeroValue114
 t167 := Tryd.underlying85
 a167 := Tryd.isAgg85
 z167 := Tryd.sizeOf85
 v167 := Tryd.zeroValue85
 t168 := Tryd.underlying88
 a168 := Tryd.isAgg88
 z168 := Tryd.sizeOf88
 v168 := Tryd.zeroValue88
 t171 := Tryd.underlying105
 a171 := Tryd.isAgg105
 z171 := Tryd.sizeOf105
 v171 := Tryd.zeroValue105
 t173 := Tryd.underlying108
 a173 := Tryd.isAgg108
 z173 := Tryd.sizeOf108
 v173 := Tryd.zeroValue108
 t175 := Tryd.underlying99
 a175 := Tryd.isAgg99
 z175 := Tryd.sizeOf99
 v175 := Tryd.zeroValue99
 t210 := Tryd.underlying103
 a210 := Tryd.isAgg103
 z210 := Tryd.sizeOf103
 v210 := Tryd.zeroValue103
 t212 := Tryd.underlying116
 a212 := Tryd.isAgg116
 z212 := Tryd.sizeOf116
 v212 := Tryd.zeroValue116
 t213 := Tryd.underlying117
 a213 := Tryd.isAgg117
 z213 := Tryd.sizeOf117
 t232 := Tryd.underlying124
 a232 := Tryd.isAgg124
 z232 := Tryd.sizeOf124
 v232 := Tryd.zeroValue124
 t233 := Tryd.underlying125
 a233 := Tryd.isAgg125
 z233 := Tryd.sizeOf125
 v233 := Tryd.zeroValue125
 g15 := by kernel_rfl
 g16 := by kernel_rfl
 g17 := by kernel_rfl
 g18 := by kernel_rfl
 g19 := by kernel_rfl
 t80 := Tryd.underlying126
 a80 := Tryd.isAgg126
 z80 := Tryd.sizeOf126
 v80 := Tryd.zeroValue126
 i0 := by kernel_rfl
 i2 := by kernel_rfl
 i3 := by kernel_rfl
 i4 := by kernel_rfl
 i5 := by kernel_rfl
 i9 := by kernel_rfl
 i20 := by kernel_rfl
 i21 := by kernel_rfl
 i37 := by kernel_rfl
 i46 := by kernel_rfl
 i51 := by kernel_rfl
 i53 := by kernel_rfl
 i75 := by kernel_rfl
 i76 := by kernel_rfl
 i80 := by kernel_rfl
 i85 := by kernel_rfl
 i127 := by kernel_rfl
 i143 := by kernel_rfl
 i145 := by kernel_rfl
 i167 := by kernel_rfl
 i168 := by kernel_rfl
 i171 := by kernel_rfl
 i173 := by kernel_rfl
 i175 := by kernel_rfl
 i210 := by kernel_rfl
 i212 := by kernel_rfl
 i232 := by kernel_rfl
 i233 := by kernel_rfl
 m15 := by kernel_rfl
 m16 := by kernel_rfl
 m17 := by kernel_rfl
 m18 := by kernel_rfl
 m19 := by kernel_rfl
 c0 := by kernel_rfl
 c2 := by kernel_rfl
 c3 := by kernel_rfl
 c4 := by kernel_rfl
 c5 := by kernel_rfl
 c9 := by kernel_rfl
 c20 := by kernel_rfl
 c21 := by kernel_rfl
 c37 := by kernel_rfl
 c46 := by kernel_rfl
 c51 := by kernel_rfl
 c53 := by kernel_rfl
 c75 := by kernel_rfl
 c76 := by kernel_rfl
 c80 := by kernel_rfl
 c85 := by kernel_rfl
 c127 := by kernel_rfl
 c143 := by kernel_rfl
 c145 := by kernel_rfl
 c167 := by kernel_rfl
 c168 := by kernel_rfl
 c171 := by kernel_rfl
 c173 := by kernel_rfl
 c175 := by kernel_rfl
 c210 := by kernel_rfl
 c212 := by kernel_rfl
 c213 := by kernel_rfl
 c232 := by kernel_rfl
 c233 := by kernel_rfl
theorem atoi_bds {l : List UInt8} {v : Int} (h : Lib.atoiAll l = .ok v) : -9223372036854775808 ≤ v ∧ v ≤ 9223372036854775807 := by
 unfold Lib.atoiAll at h;(split at h)
 ·cases h
 ·(dsimp only at h);(split at h)
  ·cases h
  ·cases h
  ·(split at h)
   ·cases h
   ·(split at h)
    ·cases h
    ·(rename_i h1 h2);(injection h with h);(split at h <;> omega)
def impl_number.f (a0 : ByteArray) (a1 : Int) : Option (Int × Bool) := if a0.size ≤ 2000000 then some (match Lib.atoiAll a0.data.toList with | .ok v => (if Lib.itoa v = a0.toList then (if 0 ≤ v ∧ v ≤ a1 then (v, true) else (0, false)) else (0, false)) | _ => (0, false)) else none
set_option maxHeartbeats 8000000 in
set_option maxRecDepth 100000 in
theorem impl_number.calls (a0 : ByteArray) (a1 : Int) (r1 : Int) (r2 : Bool) (w : World) (h : impl_number.f a0 a1 = some (r1, r2)) (hT_ : Aside0 (VT w)) :
  Calls Tryd.prog 17 #[.string a0, .int .i64 a1] w fun e w' => e = .returned (.tuple #[.int .i64 r1, .bool r2]) ∧ Below w.heap.size w w' := by
 unfold impl_number.f at h;have HB := Aside0.mk (Below.refl w.heap.size w);(by_cases h1 : a0.size ≤ 2000000)
 ·rw [if_pos h1] at h;have h := Option.some.inj h
  cases hA : Lib.atoiAll a0.data.toList with
  | ok v =>
   rw [hA] at h;(dsimp only at h);obtain ⟨v1, v2⟩ := atoi_bds hA;(by_cases c1 : Lib.itoa v = a0.toList)
   ·rw [if_pos c1] at h;have c1b0 : (Lib.itoa v == a0.toList) = true := beq_iff_eq.mpr c1;have c1b1 : (Lib.itoa v != a0.toList) = false := bne_eq_false_iff_eq.mpr c1;(by_cases c2 : 0 ≤ v ∧ v ≤ a1)
    ·rw [if_pos c2] at h;(injection h with e1 e2);subst e1 e2;(have hw9 : impl_within.f v 0 a1 = some true := by unfold impl_within.f; rw [if_pos c2.1, decide_eq_true c2.2]);clear c2;go_enter Tryd.func17, Tryd.ntmps17
     go_wp2_with (first
      | ((with_reducible refine gate_callee (f := 34) rfl ?_); refine goesL_ (some 10) rfl rfl Tryd.func34 (by kernel_rfl) rfl #[.string a0] rfl itp ?_; refine (Any.strconv_Atoi_ok impl_number_lay a0 (by omega) v hA _).mono ?_; rintro e w2 ⟨rfl, hw⟩; refine ⟨_, rfl, ?_⟩; have hb : Below w.heap.size w w2 := (by rcases hw with rfl | ⟨t, rfl⟩; exact Below.refl _ _; exact bytes_below (Below.refl _ _) (Nat.le_refl _) _ _); clear hw; have HB2 := Aside0.mk (below_step HB.out hb); clear hb)
      | ((try (refine gate_guard (by rfl) ?_; dsimp only)); (with_reducible refine gate_callee (f := 35) rfl ?_); refine goesL_ (some 17) rfl rfl Tryd.func35 (by kernel_rfl) rfl #[.int .i64 v] rfl itp ?_; refine (Any.strconv_Itoa strconv_Itoa_35_lay v v1 v2 _ (vup hT_.out (upW HB2)).1).mono ?_; rintro e w3 ⟨rfl, k3, os3, rfl⟩; refine ⟨_, rfl, ?_⟩; have HB3 := Aside0.mk (below_step (upW HB2) (vt_grow _ k3 os3)))
      | ((try (refine gate_guard (by rfl) ?_; dsimp only)); (with_reducible refine gate_callee (f := 36) rfl ?_); refine goesL_ (some 24) rfl rfl Tryd.func36 (by kernel_rfl) rfl #[.int .i64 v, .int .i64 0, .int .i64 a1] rfl itp ?_; refine (impl_within.calls v 0 a1 true _ hw9).mono ?_; rintro e w4 ⟨rfl, hd4⟩; refine ⟨_, rfl, ?_⟩; have HB4 := Aside0.mk (show Below w.heap.size w w4 from by obtain ⟨nd, rfl⟩ := hd4; exact upW HB3); clear hd4))
     (go_ret2);exact ⟨by first | rfl | (simp [*] <;> rfl), upW HB4⟩
    ·rw [if_neg c2] at h;(injection h with e1 e2);subst e1 e2
     have hw9 : impl_within.f v 0 a1 = some false := by
      unfold impl_within.f;(by_cases c3 : 0 ≤ v)
      ·rw [if_pos c3, decide_eq_false (fun h => c2 ⟨c3, h⟩)]
      ·rw [if_neg c3]
     clear c2;go_enter Tryd.func17, Tryd.ntmps17
     go_wp2_with (first
      | ((with_reducible refine gate_callee (f := 34) rfl ?_); refine goesL_ (some 10) rfl rfl Tryd.func34 (by kernel_rfl) rfl #[.string a0] rfl itp ?_; refine (Any.strconv_Atoi_ok impl_number_lay a0 (by omega) v hA _).mono ?_; rintro e w2 ⟨rfl, hw⟩; refine ⟨_, rfl, ?_⟩; have hb : Below w.heap.size w w2 := (by rcases hw with rfl | ⟨t, rfl⟩; exact Below.refl _ _; exact bytes_below (Below.refl _ _) (Nat.le_refl _) _ _); clear hw; have HB2 := Aside0.mk (below_step HB.out hb); clear hb)
      | ((try (refine gate_guard (by rfl) ?_; dsimp only)); (with_reducible refine gate_callee (f := 35) rfl ?_); refine goesL_ (some 17) rfl rfl Tryd.func35 (by kernel_rfl) rfl #[.int .i64 v] rfl itp ?_; refine (Any.strconv_Itoa strconv_Itoa_35_lay v v1 v2 _ (vup hT_.out (upW HB2)).1).mono ?_; rintro e w3 ⟨rfl, k3, os3, rfl⟩; refine ⟨_, rfl, ?_⟩; have HB3 := Aside0.mk (below_step (upW HB2) (vt_grow _ k3 os3)))
      | ((try (refine gate_guard (by rfl) ?_; dsimp only)); (with_reducible refine gate_callee (f := 36) rfl ?_); refine goesL_ (some 24) rfl rfl Tryd.func36 (by kernel_rfl) rfl #[.int .i64 v, .int .i64 0, .int .i64 a1] rfl itp ?_; refine (impl_within.calls v 0 a1 false _ hw9).mono ?_; rintro e w4 ⟨rfl, hd4⟩; refine ⟨_, rfl, ?_⟩; have HB4 := Aside0.mk (show Below w.heap.size w w4 from by obtain ⟨nd, rfl⟩ := hd4; exact upW HB3); clear hd4))
     (go_ret2);exact ⟨by first | rfl | (simp [*] <;> rfl), upW HB4⟩
   ·rw [if_neg c1] at h;(injection h with e1 e2);subst e1 e2;(have c1b0 : (Lib.itoa v == a0.toList) = false := by simpa using c1);(have c1b1 : (Lib.itoa v != a0.toList) = true := by simpa using c1);go_enter Tryd.func17, Tryd.ntmps17
    go_wp2_with (first
      | ((with_reducible refine gate_callee (f := 34) rfl ?_); refine goesL_ (some 10) rfl rfl Tryd.func34 (by kernel_rfl) rfl #[.string a0] rfl itp ?_; refine (Any.strconv_Atoi_ok impl_number_lay a0 (by omega) v hA _).mono ?_; rintro e w2 ⟨rfl, hw⟩; refine ⟨_, rfl, ?_⟩; have hb : Below w.heap.size w w2 := (by rcases hw with rfl | ⟨t, rfl⟩; exact Below.refl _ _; exact bytes_below (Below.refl _ _) (Nat.le_refl _) _ _); clear hw; have HB2 := Aside0.mk (below_step HB.out hb); clear hb)
      | ((try (refine gate_guard (by rfl) ?_; dsimp only)); (with_reducible refine gate_callee (f := 35) rfl ?_); refine goesL_ (some 17) rfl rfl Tryd.func35 (by kernel_rfl) rfl #[.int .i64 v] rfl itp ?_; refine (Any.strconv_Itoa strconv_Itoa_35_lay v v1 v2 _ (vup hT_.out (upW HB2)).1).mono ?_; rintro e w3 ⟨rfl, k3, os3, rfl⟩; refine ⟨_, rfl, ?_⟩; have HB3 := Aside0.mk (below_step (upW HB2) (vt_grow _ k3 os3))))
    (go_ret2);exact ⟨by first | rfl | (simp [*] <;> rfl), upW HB3⟩
  | range =>
   rw [hA] at h;(dsimp only at h);(injection h with e1 e2);subst e1 e2;obtain ⟨_, _, ⟨te, pe, hve⟩, _⟩ := hT_.out;go_enter Tryd.func17, Tryd.ntmps17
   go_wp2_with (first
    | ((with_reducible refine gate_callee (f := 34) rfl ?_); refine goesL_ (some 10) rfl rfl Tryd.func34 (by kernel_rfl) rfl #[.string a0] rfl itp ?_; refine (Any.strconv_Atoi_range_var impl_number_lay a0 (by omega) hA te pe _ hve).mono ?_; rintro e w2 ⟨N, rfl, _, _, hb⟩; refine ⟨_, rfl, ?_⟩; have HB2 := Aside0.mk (below_step HB.out hb); clear hb))
   (go_ret2);exact ⟨by first | rfl | (simp [*] <;> rfl), upW HB2⟩
  | _ =>
   rw [hA] at h;(dsimp only at h);(injection h with e1 e2);subst e1 e2;obtain ⟨_, ⟨te, pe, hve⟩, _⟩ := hT_.out;go_enter Tryd.func17, Tryd.ntmps17
   go_wp2_with (first
    | ((with_reducible refine gate_callee (f := 34) rfl ?_); refine goesL_ (some 10) rfl rfl Tryd.func34 (by kernel_rfl) rfl #[.string a0] rfl itp ?_; refine (Any.strconv_Atoi_syntax_var impl_number_lay a0 (by omega) hA te pe _ hve).mono ?_; rintro e w2 ⟨N, rfl, _, _, hb⟩; refine ⟨_, rfl, ?_⟩; have HB2 := Aside0.mk (below_step HB.out hb); clear hb))
   (go_ret2);exact ⟨by first | rfl | (simp [*] <;> rfl), upW HB2⟩
 ·rw [if_neg h1] at h;cases h

-- NOT PRINTED: function 72 (utf8_RuneCountInString)

-- NOT PRINTED: function 85 (utf8_decodeRuneInStringSlow)

-- NOT PRINTED: function 73 (utf8_DecodeRuneInString)

-- NOT PRINTED: function 56 (strings_explode)

-- NOT PRINTED: function 58 (strings_Index)

-- NOT PRINTED: function 74 (bytealg_CountString)

-- NOT PRINTED: function 57 (strings_Count)

-- NOT PRINTED: function 37 (strings_genSplit)

/-! ### strings_Split: function 18 -/
def strings_Split_lay_ren : Go.Shelf.Ren := ⟨fun | 146 => 18 | 221 => 37 | 268 => 56 | 138 => 57 | 143 => 58 | 195 => 72 | 197 => 73 | 218 => 74 | 219 => 52 | 260 => 85 | 217 => 62 | 225 => 63 | 224 => 64 | 267 => 65 | 266 => 76 | 314 => 77 | n => n, fun | 9 => 9 | 31 => 41 | 3 => 3 | 4 => 4 | 0 => 0 | 105 => 92 | 21 => 21 | 5 => 5 | 46 => 84 | 119 => 119 | 139 => 122 | 138 => 121 | 146 => 96 | 51 => 95 | n => n, fun | 1 => 0 | 3 => 4 | 4 => 5 | n => n⟩
theorem strings_Split_lay : Go.Proofs.Lays.n146 Tryd.prog strings_Split_lay_ren where
 mixed := by kernel_rfl
 f138 := Tryd.func57.trans (congrArg some (by kernel_rfl))
 f143 := Tryd.func58.trans (congrArg some (by kernel_rfl))
 f146 := Tryd.func18.trans (congrArg some (by kernel_rfl))
 f195 := Tryd.func72.trans (congrArg some (by kernel_rfl))
 f197 := Tryd.func73.trans (congrArg some (by kernel_rfl))
 f217 := Tryd.func62.trans (congrArg some (by kernel_rfl))
 f218 := Tryd.func74.trans (congrArg some (by kernel_rfl))
 f219 := Tryd.func52.trans (congrArg some (by kernel_rfl))
 f221 := Tryd.func37.trans (congrArg some (by kernel_rfl))
 f224 := Tryd.func64.trans (congrArg some (by kernel_rfl))
 f225 := Tryd.func63.trans (congrArg some (by kernel_rfl))
 f260 := Tryd.func85.trans (congrArg some (by kernel_rfl))
 f266 := Tryd.func76.trans (congrArg some (by kernel_rfl))
 f267 := Tryd.func65.trans (congrArg some (by kernel_rfl))
 f268 := Tryd.func56.trans (congrArg some (by kernel_rfl))
 f314 := Tryd.func77.trans (congrArg some (by kernel_rfl))
 t0 := Tryd.underlying0
 a0 := Tryd.isAgg0
 z0 := Tryd.sizeOf0
 v0 := Tryd.zeroValue0
 t3 := Tryd.underlying3
 a3 := Tryd.isAgg3
 z3 := Tryd.sizeOf3
 v3 := Tryd.zeroValue3
 t4 := Tryd.underlying4
 a4 := Tryd.isAgg4
 z4 := Tryd.sizeOf4
 v4 := Tryd.zeroValue4
 t5 := Tryd.underlying5
 a5 := Tryd.isAgg5
 z5 := Tryd.sizeOf5
 v5 := Tryd.zeroValue5
 t9 := Tryd.underlying9
 a9 := Tryd.isAgg9
 z9 := Tryd.sizeOf9
 v9 := Tryd.zeroValue9
 t21 := Tryd.underlying21
 a21 := Tryd.isAgg21
 z21 := Tryd.sizeOf21
 v21 := Tryd.zeroValue21
 t31 := Tryd.underlying41
 a31 := Tryd.isAgg41
 z31 := Tryd.sizeOf41
 v31 := Tryd.zeroValue41
 t46 := Tryd.underlying84
 a46 := Tryd.isAgg84
 z46 := Tryd.sizeOf84
 v46 := Tryd.zeroValue84
 t51 := Tryd.underlying95
 a51 := Tryd.isAgg95
 z51 := Tryd.sizeOf95
 v51 := Tryd.zeroValue95
 t105 := Tryd.underlying92
 a105 := Tryd.isAgg92
 z105 := Tryd.sizeOf92
 v105 := Tryd.zeroValue92
 t119 := Tryd.underlying119
 a119 := Tryd.isAgg119
 z119 := Tryd.sizeOf119
 t138 := Tryd.underlying121
 a138 := Tryd.isAgg121
 z138 := Tryd.sizeOf121
 v138 := Tryd.zeroValue121
 t139 := Tryd.underlying122
 a139 := Tryd.isAgg122
 z139 := Tryd.sizeOf122
 v139 := Tryd.zeroValue122
 t146 := Tryd.underlying96
 a146 := Tryd.isAgg96
 z146 := Tryd.sizeOf96
 v146 := Tryd.zeroValue96
 g1 := by kernel_rfl
 g3 := by kernel_rfl
 g4 := by kernel_rfl
theorem strings_Split_i9 : (Tryd.prog.info? (strings_Split_lay_ren.t 9)).map (fun i => (i.zero, i.size, i.bytes)) = some (some (.string ByteArray.empty), 1, 16) := by kernel_rfl
def strings_Split.f (s sep : ByteArray) : Option (List ByteArray) := if s.size ≤ 2000000 ∧ 1 ≤ sep.size then some (Lib.splitB sep 0 (Lib.countB s sep) s) else none
theorem strings_Split.calls (s sep : ByteArray) (r : List ByteArray) (w : World) (h : strings_Split.f s sep = some r) (hT_ : Aside0 (VT w)) :
  Calls Tryd.prog 18 #[.string s, .string sep] w fun e w' => ∃ v0_ : Value, e = .returned v0_ ∧ Kd.R Kd.string 9 w' w.heap.size (fun _ => True) v0_ r ∧ Below w.heap.size w w' := by
 unfold strings_Split.f at h;(by_cases h1 : s.size ≤ 2000000 ∧ 1 ≤ sep.size)
 ·rw [if_pos h1] at h;obtain rfl := Option.some.inj h;obtain ⟨_, _, _, m, hm⟩ := hT_.out;have hlen := Lib.splitB_all sep h1.2 0 _ s rfl;have hle := Lib.countB_le sep h1.2 s.size s (Nat.le_refl _);refine (Any.strings_Split strings_Split_lay strings_Split_i9 s sep m w (by omega) hm h1.2).mono ?_;rintro e w' ⟨rfl, rfl⟩;rw [← hlen];refine ⟨_, rfl, ?_, below_alloc (Below.refl _ _) _⟩;exact Kd.R_of_own (own_lit_of w w.heap.size 9 _ (Nat.le_refl _) (by omega)) (fun _ _ => trivial)
 ·rw [if_neg h1] at h;cases h

/-! ### impl_numbers: function 19 -/
def impl_numbers.l0 : Nat → Int → Int → List Int → List ByteArray → Int → Int → Option (List Int × Bool)
 | 0, _, _, _, _, _, _ => none
 | k + 1, x2, x3, x10, x18, x19, x20 => if x20 < x19 then (if 0 ≤ x20 then (if x20 < (x18.length : Int) then ((impl_number.f (rdOf ByteArray.empty x18 x20) x3).bind fun bt184 => (if bt184.2 = true then (if x10.length < 17592186044416 then (impl_numbers.l0 k x2 x3 (x10 ++ [bt184.1]) x18 x19 (wrap64 (x20 + 1))) else (none)) else (if 0 ≤ x2 then (if (x2 : Int).toNat ≤ 35184372088832 then (some ((List.replicate (x2 : Int).toNat 0), false)) else (none)) else (none)))) else (none)) else (none)) else (if (x10.length : Int) = x2 then (some (x10, true)) else (if 0 ≤ x2 then (if (x2 : Int).toNat ≤ 35184372088832 then (some ((List.replicate (x2 : Int).toNat 0), false)) else (none)) else (none)))
def impl_numbers.f (k : Nat) (a0 : ByteArray) (a1 : ByteArray) (a2 : Int) (a3 : Int) : Option (List Int × Bool) := (strings_Split.f a0 a1).bind fun t180 => (impl_numbers.l0 k a2 a3 (([] : List Int)) t180 (t180.length : Int) 0)
set_option maxHeartbeats 8000000 in
set_option maxRecDepth 100000 in
theorem impl_numbers.calls (k : Nat) (a0 : ByteArray) (a1 : ByteArray) (a2 : Int) (a3 : Int) (r1 : List Int) (r2 : Bool) (w : World) (h : impl_numbers.f k a0 a1 a2 a3 = some (r1, r2)) (hT_ : Aside0 (VT w)) :
  Calls Tryd.prog 19 #[.string a0, .string a1, .int .i64 a2, .int .i64 a3] w fun e w' => ∃ v0_ : Value, e = .returned (.tuple #[v0_, .bool r2]) ∧ Kd.R (Kd.int .i64) 3 w' w.heap.size (fun _ => True) v0_ r1 ∧ Below w.heap.size w w' := by
 have HB := Aside0.mk (Below.refl w.heap.size w);have H : ((strings_Split.f a0 a1).bind fun t180 => (impl_numbers.l0 k a2 a3 (([] : List Int)) t180 (t180.length : Int) 0)) = some (r1, r2) := h;clear h;obtain ⟨y177, hy177⟩ : ∃ y_ : List Int, y_ = (([] : List Int)) := ⟨_, rfl⟩;(replace H : ((strings_Split.f a0 a1).bind fun t180 => (impl_numbers.l0 k a2 a3 y177 t180 (t180.length : Int) 0)) = some (r1, r2) := by first | (rw [hy177]; with_reducible exact H) | (have H2_ := (Option.bind_some _ _).symm.trans H; rw [hy177]; with_reducible exact H2_) | (have H2_ := (Option.bind_some _ _).symm.trans H; with_reducible exact H2_) | with_reducible exact H | (rw [hy177]; exact H) | exact H);have Ny177 := Aside0.mk hy177;clear hy177;replace H := Option.bind_eq_some_iff.mp H;obtain ⟨t180, A50, H⟩ := H;replace H : (impl_numbers.l0 k a2 a3 y177 t180 (t180.length : Int) 0) = some (r1, r2) := H;have A5 := Aside0.mk A50;clear A50;have H' := Aside0.mk H;clear H;go_enter Tryd.func19, Tryd.ntmps19;(go_wp2_with (first | ((with_reducible refine gate_dst (N := 15) rfl ?_); refine Kd.R_lit (Kd.int .i64) _ 3 ?hg (N := 15) ?hd (xs := ([] : List Int)) (inner := []) (ok := fun _ => True) (okp := fun _ => True) ?hr ?hp (fun _ hk => hk) trivial (Below.refl _ _) (Nat.le_refl _) (by simp) ?_; (case hd => rfl); (case hg => rfl); (case hr => first | (go_simp; done) | (go_simp; rfl)); (case hp => exact (Reps.none _ _)); intro v178 w6 ho7 hb hg_ hnew_; clear hg_ hnew_; (first | rw [← Ny177.out] at ho7 | (simp only [Int.reduceToNat] at ho7; rw [← Ny177.out] at ho7)); have n0_ := Aside0.mk (Kd.R_lower ho7 (below_size (upW HB))); have n1_ := Aside0.mk (below_step (upW HB) hb); clear HB; have HO179 := n0_; have HB := n1_; clear n0_ n1_; clear hb ho7) | ((with_reducible refine gate_callee (f := 18) rfl ?_); refine goesL_ (some 18) rfl rfl Tryd.func18 (by kernel_rfl) rfl #[.string a0, .string a1] rfl itp ?_; (with_reducible refine (strings_Split.calls a0 a1 t180 _ A5.out ?sideT).mono ?_); (case sideT => exact ⟨vup hT_.out (upW HB)⟩); rintro e w8 ⟨v181, rfl, ho0, hb⟩; refine ⟨_, rfl, ?_⟩; have n0_ := Aside0.mk (Kd.R_below (upR HO179) hb); have n1_ := Aside0.mk (Kd.R_lower ho0 (below_size (upW HB))); have n2_ := Aside0.mk (below_step (upW HB) hb); clear HO179; clear HB; have HO179 := n0_; have HO182 := n1_; have HB := n2_; clear n0_ n1_ n2_; (try clear hb); (try clear hb2); (try clear hk); (try clear hi); (try clear ho0); obtain ⟨Ao9, co9, eo9⟩ := Kd.R_slice HO182.out; subst eo9)));(try simp only [Act.put, List.setIfInBounds_toArray, List.set_cons_succ, List.set_cons_zero]);(go_loopg [10, 20] k (fun kq v10 v20 w' => ∃ (x10_1 : List Int) (x20_1 : Int), v20 = .int .i64 x20_1 ∧ Aside0 (impl_numbers.l0 kq a2 a3 x10_1 t180 (t180.length : Int) x20_1 = some (r1, r2)) ∧ Aside0 (kq ≤ k) ∧ Aside0 (Kd.R (Kd.int .i64) 3 w' w.heap.size (fun _ => True) v10 x10_1) ∧ Aside0 (Kd.R Kd.string 9 w' w.heap.size (fun _ => True) (.slice Ao9 t180.length co9) t180) ∧ Aside0 (Below w.heap.size w w')));(case atStart => exact ⟨(y177), (0), (by first | rfl | (simp; done) | (simp [*]; done)), H', ⟨Nat.le_refl _⟩, ⟨upR HO179⟩, ⟨upR HO182⟩, ⟨upW HB⟩⟩)
 case round =>
  clear H';(try clear c1);(try clear p2);obtain ⟨x10_1, x20_1, rfl, HA, HK1, HO_10, HO_18, HB⟩ := hrel
  cases gk with
  | zero => exact absurd HA.out (by simp [impl_numbers.l0])
  | succ k1 =>
   have H := HA.out;clear HA;simp only [impl_numbers.l0] at H;(by_cases c10 : x20_1 < (t180.length : Int))
   ·rw [if_pos c10] at H;have c10b0 : decide (x20_1 < (t180.length : Int)) = true := decide_eq_true c10;clear c10;(by_cases c11 : 0 ≤ x20_1)
    ·rw [if_pos c11] at H;have c11b0 : decide (0 ≤ x20_1) = true := decide_eq_true c11;clear c11;(by_cases c12 : x20_1 < (t180.length : Int))
     ·rw [if_pos c12] at H;have c12b0 : decide (x20_1 < (t180.length : Int)) = true := decide_eq_true c12;clear c12;replace H := Option.bind_eq_some_iff.mp H;obtain ⟨⟨t184, t185⟩, A130, H⟩ := H;replace H : (if t185 = true then (if x10_1.length < 17592186044416 then (impl_numbers.l0 k1 a2 a3 (x10_1 ++ [t184]) t180 (t180.length : Int) (wrap64 (x20_1 + 1))) else (none)) else (if 0 ≤ a2 then (if (a2 : Int).toNat ≤ 35184372088832 then (some ((List.replicate (a2 : Int).toNat 0), false)) else (none)) else (none))) = some (r1, r2) := H;have A13 := Aside0.mk A130;clear A130;(by_cases c14 : t185 = true)
      ·subst c14;(have H1 : (if x10_1.length < 17592186044416 then (impl_numbers.l0 k1 a2 a3 (x10_1 ++ [t184]) t180 (t180.length : Int) (wrap64 (x20_1 + 1))) else (none)) = some (r1, r2) := by rw [if_pos rfl] at H; exact H);clear H;have H := H1;clear H1;(by_cases c15 : x10_1.length < 17592186044416)
       ·rw [if_pos c15] at H;have LMc15 := Aside0.mk c15;clear c15;obtain ⟨y186, hy186⟩ : ∃ y_ : List Int, y_ = (x10_1 ++ [t184]) := ⟨_, rfl⟩;(replace H : (impl_numbers.l0 k1 a2 a3 y186 t180 (t180.length : Int) (wrap64 (x20_1 + 1))) = some (r1, r2) := by first | (rw [hy186]; with_reducible exact H) | (have H2_ := (Option.bind_some _ _).symm.trans H; rw [hy186]; with_reducible exact H2_) | (have H2_ := (Option.bind_some _ _).symm.trans H; with_reducible exact H2_) | with_reducible exact H | (rw [hy186]; exact H) | exact H);have Ny186 := Aside0.mk hy186;clear hy186;have H' := Aside0.mk H;clear H;have p183 : 0 ≤ (x20_1 : Int) := of_decide_eq_true (by first | (with_reducible assumption) | assumption);have q183 : x20_1 < (t180.length : Int) := of_decide_eq_true (by first | (with_reducible assumption) | assumption);obtain ⟨ad183, e183, hx183_0⟩ := Kd.at_string (Kd.R_reads' HO_18.out).2.2 x20_1 p183 q183;cases e183;replace p183 := eq_true p183;replace q183 := eq_true q183;(go_wp2_with (first | ((with_reducible refine gate_callee (f := 17) rfl ?_); refine goesL_ (some 27) rfl rfl Tryd.func17 (by kernel_rfl) rfl #[.string (rdOf ByteArray.empty t180 x20_1), .int .i64 a3] rfl itp ?_; (with_reducible refine (impl_number.calls (rdOf ByteArray.empty t180 x20_1) a3 t184 true _ A13.out ?sideT).mono ?_); (case sideT => exact ⟨vup hT_.out (upW HB)⟩); rintro e w16 ⟨rfl, hb⟩; refine ⟨_, rfl, ?_⟩; have n0_ := Aside0.mk (Kd.R_below (upR HO_10) hb); have n1_ := Aside0.mk (Kd.R_below (upR HO_18) hb); have n2_ := Aside0.mk (below_step (upW HB) hb); clear HO_10; clear HO_18; clear HB; have HO_10 := n0_; have HO_18 := n1_; have HB := n2_; clear n0_ n1_ n2_; (try clear hb); (try clear hb2); (try clear hk); (try clear hi)) | ((with_reducible refine gate_builtin (b := .append) (xs := #[.tmp 34, .tmp 36]) rfl ?_); at_builtin; refine Kd.R_append (Kd.int .i64) (w0 := w) w.heap.size rfl (.tmp 34) (.tmp 36) 43 3 (.int .i64 0) 8 rfl Tryd.underlying43 info3 rfl (by decide) (by omega) u10 x10_1 t184 [.int .i64 t184] (fun _ => True) (fun _ => False) rfl rfl ?aP (fun _ hk => hk.elim) ?aF ?aO ?aB ?aS ?aL ?_; (case aP => exact rfl); (case aB => exact (upW HB)); (case aF => exact (fun _ _ => trivial)); (case aO => exact (upR HO_10)); (case aS => exact (below_size (upW HB))); (case aL => have := LMc15.out; omega); intro v187 w17 ho hb hg hat; rw [← Ny186.out] at ho; have n0_ := Aside0.mk (Kd.R_over' (upR HO_18) (Kd.R_typed (upR HO_10)) (by decide) hg); have n1_ := Aside0.mk (hb); have n2_ := Aside0.mk (ho); clear HO_18; clear HB; clear HO_10; have HO_18 := n0_; have HB := n1_; have HO188 := n2_; clear n0_ n1_ n2_; clear ho hb hg hat)));go_roundg k1;(case measure => have := HK1.out; omega);(case rel => exact ⟨(y186), (wrap64 (x20_1 + 1)), (by first | rfl | (simp; done) | (simp [*]; done)), H', ⟨by have := HK1.out; omega⟩, ⟨upR HO188⟩, ⟨upR HO_18⟩, ⟨upW HB⟩⟩)
       ·rw [if_neg c15] at H;exact absurd H (by simp)
      ·replace c14 := Bool.eq_false_iff.mpr c14;subst c14;(have H1 : (if 0 ≤ a2 then (if (a2 : Int).toNat ≤ 35184372088832 then (some ((List.replicate (a2 : Int).toNat 0), false)) else (none)) else (none)) = some (r1, r2) := by rw [if_neg (show ¬ (false = true) by decide)] at H; exact H);clear H;have H := H1;clear H1;(by_cases c18 : 0 ≤ a2)
       ·rw [if_pos c18] at H;have c18b0 := eq_true c18;have c18b1 : decide (0 ≤ a2) = true := decide_eq_true c18;clear c18;(by_cases c19 : (a2 : Int).toNat ≤ 35184372088832)
        ·rw [if_pos c19] at H;have c19b0 := eq_true c19;have c19b1 : decide ((a2 : Int).toNat ≤ 35184372088832) = true := decide_eq_true c19;clear c19;obtain ⟨y189, hy189⟩ : ∃ y_ : List Int, y_ = (List.replicate (a2 : Int).toNat 0) := ⟨_, rfl⟩;(replace H : (some (y189, false)) = some (r1, r2) := by first | (rw [hy189]; with_reducible exact H) | (have H2_ := (Option.bind_some _ _).symm.trans H; rw [hy189]; with_reducible exact H2_) | (have H2_ := (Option.bind_some _ _).symm.trans H; with_reducible exact H2_) | with_reducible exact H | (rw [hy189]; exact H) | exact H);have Ny189 := Aside0.mk hy189;clear hy189;simp only [Option.some.injEq, Prod.mk.injEq] at H;obtain ⟨rfl, rfl⟩ := H;have p183 : 0 ≤ (x20_1 : Int) := of_decide_eq_true (by first | (with_reducible assumption) | assumption);have q183 : x20_1 < (t180.length : Int) := of_decide_eq_true (by first | (with_reducible assumption) | assumption);obtain ⟨ad183, e183, hx183_0⟩ := Kd.at_string (Kd.R_reads' HO_18.out).2.2 x20_1 p183 q183;cases e183;replace p183 := eq_true p183;replace q183 := eq_true q183;(go_wp2_with (first | ((with_reducible refine gate_callee (f := 17) rfl ?_); refine goesL_ (some 27) rfl rfl Tryd.func17 (by kernel_rfl) rfl #[.string (rdOf ByteArray.empty t180 x20_1), .int .i64 a3] rfl itp ?_; (with_reducible refine (impl_number.calls (rdOf ByteArray.empty t180 x20_1) a3 t184 false _ A13.out ?sideT).mono ?_); (case sideT => exact ⟨vup hT_.out (upW HB)⟩); rintro e w20 ⟨rfl, hb⟩; refine ⟨_, rfl, ?_⟩; have n0_ := Aside0.mk (Kd.R_below (upR HO_10) hb); have n1_ := Aside0.mk (Kd.R_below (upR HO_18) hb); have n2_ := Aside0.mk (below_step (upW HB) hb); clear HO_10; clear HO_18; clear HB; have HO_10 := n0_; have HO_18 := n1_; have HB := n2_; clear n0_ n1_ n2_; (try clear hb); (try clear hb2); (try clear hk); (try clear hi)) | ((with_reducible refine gate_dst (N := 33) rfl ?_); refine Kd.R_make (Kd.int .i64) _ 3 rfl (N := 33) rfl 43 _ _ rfl a2 rfl rfl Tryd.underlying43 (.int .i64 0) 8 info3 rfl (by decide) (by omega) 0 (ok := fun _ => True) (okp := fun _ => True) rfl (fun _ hk => hk) trivial (of_decide_eq_true (by first | (with_reducible assumption) | assumption)) (Nat.le_trans (Nat.mul_le_mul_right _ (of_decide_eq_true (by first | (with_reducible assumption) | assumption) : a2.toNat ≤ 35184372088832)) (by omega)) (Below.refl _ _) (Nat.le_refl _) ?_; intro v190 w21 ho22 hb hg_ hnew_; clear hg_ hnew_; (first | rw [← Ny189.out] at ho22 | (simp only [Int.reduceToNat] at ho22; rw [← Ny189.out] at ho22)); have n0_ := Aside0.mk (Kd.R_elder' (upR HO_10) (Kd.R_base ho22) hb); have n1_ := Aside0.mk (Kd.R_below (upR HO_18) hb); have n2_ := Aside0.mk (Kd.R_lower (Kd.R_new' ho22 (Kd.R_lt (upR HO_10))) (below_size (upW HB))); have n3_ := Aside0.mk (below_step (upW HB) hb); clear HO_10; clear HO_18; clear HB; have HO_10 := n0_; have HO_18 := n1_; have HO191 := n2_; have HB := n3_; clear n0_ n1_ n2_ n3_; clear hb ho22)));(go_ret2);exact ⟨_, by first | rfl | (simp [errW_none, errW_some] <;> rfl) | (simp [*, errW_none, errW_some] <;> rfl), by (with_reducible repeat (first | apply Kd.R_alloc | apply Kd.R_drewN | apply Kd.R_drew)); exact Kd.R_mono HO191.out (fun _ hk => trivial), by repeat (first | (with_reducible first | exact HB.out | apply below_alloc | apply pw_below_drewN | apply below_drew1) | exact HB.out)⟩
        ·rw [if_neg c19] at H;exact absurd H (by simp)
       ·rw [if_neg c18] at H;exact absurd H (by simp)
     ·rw [if_neg c12] at H;exact absurd H (by simp)
    ·rw [if_neg c11] at H;exact absurd H (by simp)
   ·rw [if_neg c10] at H;have c10b0 : decide (x20_1 < (t180.length : Int)) = false := decide_eq_false c10;clear c10;(by_cases c23 : (x10_1.length : Int) = a2)
    ·rw [if_pos c23] at H;have c23b0 : ((x10_1.length : Int) == a2) = true := beq_iff_eq.mpr c23;have c23b1 : ((x10_1.length : Int) != a2) = false := bne_eq_false_iff_eq.mpr c23;clear c23;simp only [Option.some.injEq, Prod.mk.injEq] at H;obtain ⟨rfl, rfl⟩ := H;obtain ⟨Ao24, co24, eo24⟩ := Kd.R_slice HO_10.out;subst eo24;go_wp2;(go_ret2);exact ⟨_, by first | rfl | (simp [errW_none, errW_some] <;> rfl) | (simp [*, errW_none, errW_some] <;> rfl), by (with_reducible repeat (first | apply Kd.R_alloc | apply Kd.R_drewN | apply Kd.R_drew)); exact HO_10.out, by repeat (first | (with_reducible first | exact HB.out | apply below_alloc | apply pw_below_drewN | apply below_drew1) | exact HB.out)⟩
    ·rw [if_neg c23] at H;have c23b0 : ((x10_1.length : Int) == a2) = false := beq_eq_false_iff_ne.mpr c23;have c23b1 : ((x10_1.length : Int) != a2) = true := bne_iff_ne.mpr c23;(by_cases c25 : 0 ≤ a2)
     ·rw [if_pos c25] at H;have c25b0 := eq_true c25;have c25b1 : decide (0 ≤ a2) = true := decide_eq_true c25;clear c25;(by_cases c26 : (a2 : Int).toNat ≤ 35184372088832)
      ·rw [if_pos c26] at H;have c26b0 := eq_true c26;have c26b1 : decide ((a2 : Int).toNat ≤ 35184372088832) = true := decide_eq_true c26;clear c26;obtain ⟨y192, hy192⟩ : ∃ y_ : List Int, y_ = (List.replicate (a2 : Int).toNat 0) := ⟨_, rfl⟩;(replace H : (some (y192, false)) = some (r1, r2) := by first | (rw [hy192]; with_reducible exact H) | (have H2_ := (Option.bind_some _ _).symm.trans H; rw [hy192]; with_reducible exact H2_) | (have H2_ := (Option.bind_some _ _).symm.trans H; with_reducible exact H2_) | with_reducible exact H | (rw [hy192]; exact H) | exact H);have Ny192 := Aside0.mk hy192;clear hy192;simp only [Option.some.injEq, Prod.mk.injEq] at H;obtain ⟨rfl, rfl⟩ := H;obtain ⟨Ao27, co27, eo27⟩ := Kd.R_slice HO_10.out;subst eo27;(go_wp2_with (first | ((with_reducible refine gate_dst (N := 44) rfl ?_); refine Kd.R_make (Kd.int .i64) _ 3 rfl (N := 44) rfl 43 _ _ rfl a2 rfl rfl Tryd.underlying43 (.int .i64 0) 8 info3 rfl (by decide) (by omega) 0 (ok := fun _ => True) (okp := fun _ => True) rfl (fun _ hk => hk) trivial (of_decide_eq_true (by first | (with_reducible assumption) | assumption)) (Nat.le_trans (Nat.mul_le_mul_right _ (of_decide_eq_true (by first | (with_reducible assumption) | assumption) : a2.toNat ≤ 35184372088832)) (by omega)) (Below.refl _ _) (Nat.le_refl _) ?_; intro v193 w28 ho29 hb hg_ hnew_; clear hg_ hnew_; (first | rw [← Ny192.out] at ho29 | (simp only [Int.reduceToNat] at ho29; rw [← Ny192.out] at ho29)); have n0_ := Aside0.mk (Kd.R_elder' (upR HO_10) (Kd.R_base ho29) hb); have n1_ := Aside0.mk (Kd.R_below (upR HO_18) hb); have n2_ := Aside0.mk (Kd.R_lower (Kd.R_new' ho29 (Kd.R_lt (upR HO_10))) (below_size (upW HB))); have n3_ := Aside0.mk (below_step (upW HB) hb); clear HO_10; clear HO_18; clear HB; have HO_10 := n0_; have HO_18 := n1_; have HO194 := n2_; have HB := n3_; clear n0_ n1_ n2_ n3_; clear hb ho29)));(go_ret2);exact ⟨_, by first | rfl | (simp [errW_none, errW_some] <;> rfl) | (simp [*, errW_none, errW_some] <;> rfl), by (with_reducible repeat (first | apply Kd.R_alloc | apply Kd.R_drewN | apply Kd.R_drew)); exact Kd.R_mono HO194.out (fun _ hk => trivial), by repeat (first | (with_reducible first | exact HB.out | apply below_alloc | apply pw_below_drewN | apply below_drew1) | exact HB.out)⟩
      ·rw [if_neg c26] at H;exact absurd H (by simp)
     ·rw [if_neg c25] at H;exact absurd H (by simp)

end Go.Proofs.YtnmaeekclpmmnaaDoor.PFnExactParseNet
