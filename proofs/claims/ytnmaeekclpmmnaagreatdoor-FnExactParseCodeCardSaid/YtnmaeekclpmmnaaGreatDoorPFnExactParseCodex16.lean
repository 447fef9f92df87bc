-- made for this claim by a program of this session
import Derived.Test.YtnmaeekclpmmnaaGreatDoorPFnExactParseCodex0
import Derived.Test.YtnmaeekclpmmnaaGreatDoorPFnExactParseCodex5
import Derived.Test.YtnmaeekclpmmnaaGreatDoorPFnExactParseCodex15
namespace Go.Proofs.YtnmaeekclpmmnaaGreatDoor.PFnExactParseCode
open Go.RowKit Go.Proofs.YtnmaeekclpmmnaaGreatDoorW.PrintWords Go.Proofs.YtnmaeekclpmmnaaGreatDoorW.PrintLast Go.Proofs.YtnmaeekclpmmnaaGreatDoorW.PrintMore
attribute [local go_sem] max2_int min2_int max_two min_two max_three min_three max_four min_four   -- for this text's walks alone
set_option linter.unusedVariables false
set_option linter.unusedSimpArgs false

/-! ### strconv_Itoa_142: function 142 -/
def strconv_Itoa_142_lay_ren : Go.Shelf.Ren := ⟨fun | 171 => 142 | 243 => 189 | 246 => 216 | 283 => 239 | 284 => 240 | 285 => 241 | 286 => 242 | 129 => 233 | 317 => 261 | 318 => 262 | 319 => 263 | 320 => 264 | 337 => 270 | 338 => 271 | n => n, fun | 3 => 3 | 9 => 9 | 2 => 2 | 4 => 4 | 171 => 192 | 0 => 0 | 53 => 185 | 37 => 126 | 5 => 5 | 173 => 194 | 212 => 218 | 51 => 183 | 20 => 20 | 213 => 219 | 46 => 158 | 232 => 226 | 233 => 227 | n => n, fun | 17 => 5 | 18 => 6 | 19 => 7 | n => n⟩
theorem strconv_Itoa_142_lay : Go.Proofs.LaysM.n171 Tryz.prog strconv_Itoa_142_lay_ren where
 mixed := by kernel_rfl
 f129 := Tryz.func233.trans (congrArg some (by kernel_rfl))
 f171 := Tryz.func142.trans (congrArg some (by kernel_rfl))
 f243 := Tryz.func189.trans (congrArg some (by kernel_rfl))
 f246 := Tryz.func216.trans (congrArg some (by kernel_rfl))
 f283 := Tryz.func239.trans (congrArg some (by kernel_rfl))
 f284 := Tryz.func240.trans (congrArg some (by kernel_rfl))
 f285 := Tryz.func241.trans (congrArg some (by kernel_rfl))
 f286 := Tryz.func242.trans (congrArg some (by kernel_rfl))
 f317 := Tryz.func261.trans (congrArg some (by kernel_rfl))
 f318 := Tryz.func262.trans (congrArg some (by kernel_rfl))
 f319 := Tryz.func263.trans (congrArg some (by kernel_rfl))
 f320 := Tryz.func264.trans (congrArg some (by kernel_rfl))
 f337 := Tryz.func270.trans (congrArg some (by kernel_rfl))
 f338 := Tryz.func271.trans (congrArg some (by kernel_rfl))
 t0 := Tryz.underlying0
 a0 := Tryz.isAgg0
 z0 := Tryz.sizeOf0
 v0 := Tryz.zeroValue0
 t2 := Tryz.underlying2
 a2 := Tryz.isAgg2
 z2 := Tryz.sizeOf2
 v2 := Tryz.zeroValue2
 t3 := Tryz.underlying3
 a3 := Tryz.isAgg3
 z3 := Tryz.sizeOf3
 v3 := Tryz.zeroValue3
 t4 := Tryz.underlying4
 a4 := Tryz.isAgg4
 z4 := Tryz.sizeOf4
 v4 := Tryz.zeroValue4
 t5 := Tryz.underlying5
 a5 := Tryz.isAgg5
 z5 := Tryz.sizeOf5
 v5 := Tryz.zeroValue5
 t9 := Tryz.underlying9
 a9 := Tryz.isAgg9
 z9 := Tryz.sizeOf9
 v9 := Tryz.zeroValue9
 t20 := Tryz.underlying20
 a20 := Tryz.isAgg20
 z20 := Tryz.sizeOf20
 v20 := Tryz.zeroValue20
 t37 := Tryz.underlying126
 a37 := Tryz.isAgg126
 z37 := Tryz.sizeOf126
 v37 := Tryz.zeroValue126
 t46 := Tryz.underlying158
 a46 := Tryz.isAgg158
 z46 := Tryz.sizeOf158
 v46 := Tryz.zeroValue158
 t51 := Tryz.underlying183
 a51 := Tryz.isAgg183
 z51 := Tryz.sizeOf183
 v51 := Tryz.zeroValue183
 t53 := Tryz.underlying185
 a53 := Tryz.isAgg185
 z53 := Tryz.sizeOf185
 v53 := Tryz.zeroValue185
 t171 := Tryz.underlying192
 a171 := Tryz.isAgg192
 z171 := Tryz.sizeOf192
 v171 := Tryz.zeroValue192
 t173 := Tryz.underlying194
 a173 := Tryz.isAgg194
 z173 := Tryz.sizeOf194
 v173 := Tryz.zeroValue194
 t212 := Tryz.underlying218
 a212 := Tryz.isAgg218
 z212 := Tryz.sizeOf218
 v212 := Tryz.zeroValue218
 t213 := Tryz.underlying219
 a213 := Tryz.isAgg219
 z213 := Tryz.sizeOf219
 t232 := Tryz.underlying226
 a232 := Tryz.isAgg226
 z232 := Tryz.sizeOf226
 v232 := Tryz.zeroValue226
 t233 := Tryz.underlying227
 a233 := Tryz.isAgg227
 z233 := Tryz.sizeOf227
 v233 := Tryz.zeroValue227
 g17 := by kernel_rfl
 g18 := by kernel_rfl
 g19 := by kernel_rfl
 i0 := by kernel_rfl
 i2 := by kernel_rfl
 i3 := by kernel_rfl
 i4 := by kernel_rfl
 i5 := by kernel_rfl
 i9 := by kernel_rfl
 i20 := by kernel_rfl
 i37 := by kernel_rfl
 i46 := by kernel_rfl
 i51 := by kernel_rfl
 i53 := by kernel_rfl
 i171 := by kernel_rfl
 i173 := by kernel_rfl
 i212 := by kernel_rfl
 i232 := by kernel_rfl
 i233 := by kernel_rfl
 m17 := by kernel_rfl
 m18 := by kernel_rfl
 m19 := by kernel_rfl
def strconv_Itoa_142.f (a0 : Int) : Option ByteArray := if 0 ≤ a0 ∧ a0 < 1000000 then some ⟨(Lib.decDigits a0.toNat).toArray⟩ else none
theorem strconv_Itoa_142.calls (a0 : Int) (r : ByteArray) (w : World) (h : strconv_Itoa_142.f a0 = some r) (hT_ : Aside0 (VT w)) :
  Calls Tryz.prog 142 #[.int .i64 a0] w fun e w' => e = .returned (.string r) ∧ Below w.heap.size w w' := by
 unfold strconv_Itoa_142.f at h;(by_cases h1 : 0 ≤ a0 ∧ a0 < 1000000)
 ·rw [if_pos h1] at h;obtain rfl := Option.some.inj h;refine (Any.strconv_Itoa strconv_Itoa_142_lay a0 (by omega) (by omega) w hT_.out.1).mono ?_;rintro e w' ⟨rfl, k, os, rfl⟩;refine ⟨?_, vt_grow w k os⟩;unfold Lib.itoa;rw [if_neg (by omega)]
 ·rw [if_neg h1] at h;cases h

-- NOT PRINTED: function 238 (errors_New)

-- NOT PRINTED: function 214 (strconv_baseError)

-- NOT PRINTED: function 215 (strconv_bitSizeError)

-- NOT PRINTED: function 188 (strconv_toError)

-- NOT PRINTED: function 141 (strconv_Atoi_141)

/-! ### impl_number: function 76 -/
def impl_number_lay_ren : Go.Shelf.Ren := ⟨fun | 172 => 141 | 244 => 187 | 245 => 188 | 247 => 211 | 279 => 212 | 280 => 213 | 281 => 214 | 282 => 215 | 287 => 236 | 316 => 237 | 171 => 142 | 205 => 238 | 321 => 259 | 322 => 260 | 243 => 189 | 246 => 216 | 283 => 239 | 284 => 240 | 285 => 241 | 286 => 242 | 129 => 233 | 317 => 261 | 318 => 262 | 319 => 263 | 320 => 264 | 337 => 270 | 338 => 271 | n => n, fun | 9 => 9 | 3 => 3 | 75 => 121 | 76 => 122 | 4 => 4 | 5 => 5 | 167 => 164 | 37 => 126 | 0 => 0 | 85 => 165 | 2 => 2 | 168 => 167 | 53 => 185 | 175 => 186 | 46 => 158 | 210 => 190 | 127 => 152 | 145 => 217 | 143 => 215 | 21 => 21 | 171 => 192 | 173 => 194 | 212 => 218 | 51 => 183 | 20 => 20 | 213 => 219 | 232 => 226 | 233 => 227 | 80 => 130 | n => n, fun | 15 => 1 | 16 => 2 | 17 => 5 | 18 => 6 | 19 => 7 | n => n⟩
theorem impl_number_lay : Go.Proofs.LaysC.n172 Tryz.prog impl_number_lay_ren where
 mixed := by kernel_rfl
 f129 := Tryz.func233.trans (congrArg some (by kernel_rfl))
 f171 := Tryz.func142.trans (congrArg some (by kernel_rfl))
 f172 := Tryz.func141.trans (congrArg some (by kernel_rfl))
 f205 := Tryz.func238.trans (congrArg some (by kernel_rfl))
 f243 := Tryz.func189.trans (congrArg some (by kernel_rfl))
 f244 := Tryz.func187.trans (congrArg some (by kernel_rfl))
 f245 := Tryz.func188.trans (congrArg some (by kernel_rfl))
 f246 := Tryz.func216.trans (congrArg some (by kernel_rfl))
 f247 := Tryz.func211.trans (congrArg some (by kernel_rfl))
 f279 := Tryz.func212.trans (congrArg some (by kernel_rfl))
 f280 := Tryz.func213.trans (congrArg some (by kernel_rfl))
 f281 := Tryz.func214.trans (congrArg some (by kernel_rfl))
 f282 := Tryz.func215.trans (congrArg some (by kernel_rfl))
 f283 := Tryz.func239.trans (congrArg some (by kernel_rfl))
 f284 := Tryz.func240.trans (congrArg some (by kernel_rfl))
 f285 := Tryz.func241.trans (congrArg some (by kernel_rfl))
 f286 := Tryz.func242.trans (congrArg some (by kernel_rfl))
 f287 := Tryz.func236.trans (congrArg some (by kernel_rfl))
 f316 := Tryz.func237.trans (congrArg some (by kernel_rfl))
 f317 := Tryz.func261.trans (congrArg some (by kernel_rfl))
 f318 := Tryz.func262.trans (congrArg some (by kernel_rfl))
 f319 := Tryz.func263.trans (congrArg some (by kernel_rfl))
 f320 := Tryz.func264.trans (congrArg some (by kernel_rfl))
 f321 := Tryz.func259.trans (congrArg some (by kernel_rfl))
 f322 := Tryz.func260.trans (congrArg some (by kernel_rfl))
 f337 := Tryz.func270.trans (congrArg some (by kernel_rfl))
 f338 := Tryz.func271.trans (congrArg some (by kernel_rfl))
 t0 := Tryz.underlying0
 a0 := Tryz.isAgg0
 z0 := Tryz.sizeOf0
 v0 := Tryz.zeroValue0
 t2 := Tryz.underlying2
 a2 := Tryz.isAgg2
 z2 := Tryz.sizeOf2
 v2 := Tryz.zeroValue2
 t3 := Tryz.underlying3
 a3 := Tryz.isAgg3
 z3 := Tryz.sizeOf3
 v3 := Tryz.zeroValue3
 t4 := Tryz.underlying4
 a4 := Tryz.isAgg4
 z4 := Tryz.sizeOf4
 v4 := Tryz.zeroValue4
 t5 := Tryz.underlying5
 a5 := Tryz.isAgg5
 z5 := Tryz.sizeOf5
 v5 := Tryz.zeroValue5
 t9 := Tryz.underlying9
 a9 := Tryz.isAgg9
 z9 := Tryz.sizeOf9
 v9 := Tryz.zeroValue9
 t20 := Tryz.underlying20
 a20 := Tryz.isAgg20
 z20 := Tryz.sizeOf20
 v20 := Tryz.zeroValue20
 t21 := Tryz.underlying21
 a21 := Tryz.isAgg21
 z21 := Tryz.sizeOf21
 v21 := Tryz.zeroValue21
 t37 := Tryz.underlying126
 a37 := Tryz.isAgg126
 z37 := Tryz.sizeOf126
 v37 := Tryz.zeroValue126
 t46 := Tryz.underlying158
 a46 := Tryz.isAgg158
 z46 := Tryz.sizeOf158
 v46 := Tryz.zeroValue158
 t51 := Tryz.underlying183
 a51 := Tryz.isAgg183
 z51 := Tryz.sizeOf183
 v51 := Tryz.zeroValue183
 t53 := Tryz.underlying185
 a53 := Tryz.isAgg185
 z53 := Tryz.sizeOf185
 v53 := Tryz.zeroValue185
 t75 := Tryz.underlying121
 a75 := Tryz.isAgg121
 z75 := Tryz.sizeOf121
 v75 := Tryz.zeroValue121
 t76 := Tryz.underlying122
 a76 := Tryz.isAgg122
 z76 := Tryz.sizeOf122
 v76 := Tryz.zeroValue122
 t85 := Tryz.underlying165
 a85 := Tryz.isAgg165
 z85 := Tryz.sizeOf165
 v85 := Tryz.zeroValue165
 t127 := Tryz.underlying152
 a127 := Tryz.isAgg152
 z127 := Tryz.sizeOf152
 v127 := Tryz.zeroValue152
 t143 := Tryz.underlying215
 a143 := Tryz.isAgg215
 z143 := Tryz.sizeOf215
 v143 := Tryz.zeroValue215
 t145 := Tryz.underlying217
 a145 := Tryz.isAgg217
 z145 := Tryz.sizeOf217
 v145 := Tryz.zeroValue217
 t167 := Tryz.underlying164
 a167 := Tryz.isAgg164
 z167 := Tryz.sizeOf164
 v167 := Tryz.zeroValue164
 t168 := Tryz.underlying167
 a168 := Tryz.isAgg167
 z168 := Tryz.sizeOf167
 v168 := Tryz.zeroValue167
 t171 := Tryz.underlying192
 a171 := Tryz.isAgg192
 z171 := Tryz.sizeOf192
 v171 := Tryz.zeroValue192
 t173 := Tryz.underlying194
 a173 := Tryz.isAgg194
 z173 := Tryz.sizeOf194
 v173 := Tryz.zeroValue194
 t175 := Tryz.underlying186
 a175 := Tryz.isAgg186
 z175 := Tryz.sizeOf186
 v175 := Tryz.zeroValue186
 t210 := Tryz.underlying190
 a210 := Tryz.isAgg190
 z210 := Tryz.sizeOf190
 v210 := Tryz.zeroValue190
 t212 := Tryz.underlying218
 a212 := Tryz.isAgg218
 z212 := Tryz.sizeOf218
 v212 := Tryz.zeroValue218
 t213 := Tryz.underlying219
 a213 := Tryz.isAgg219
 z213 := Tryz.sizeOf219
 t232 := Tryz.underlying226
 a232 := Tryz.isAgg226
 z232 := Tryz.sizeOf226
 v232 := Tryz.zeroValue226
 t233 := Tryz.underlying227
 a233 := Tryz.isAgg227
 z233 := Tryz.sizeOf227
 v233 := Tryz.zeroValue227
 g15 := by kernel_rfl
 g16 := by kernel_rfl
 g17 := by kernel_rfl
 g18 := by kernel_rfl
 g19 := by kernel_rfl
 t80 := Tryz.underlying130
 a80 := Tryz.isAgg130
 z80 := Tryz.sizeOf130
 v80 := Tryz.zeroValue130
 i0 := by kernel_rfl
 i2 := by kernel_rfl
 i3 := by kernel_rfl
 i4 := by kernel_rfl
 i5 := by kernel_rfl
 i9 := by kernel_rfl
 i20 := by kernel_rfl
 i21 := by kernel_rfl
 i37 := by kernel_rfl
 i46 := by kernel_rfl
 i51 := by kernel_rfl
 i53 := by kernel_rfl
 i75 := by kernel_rfl
 i76 := by kernel_rfl
 i80 := by kernel_rfl
 i85 := by kernel_rfl
 i127 := by kernel_rfl
 i143 := by kernel_rfl
 i145 := by kernel_rfl
 i167 := by kernel_rfl
 i168 := by kernel_rfl
 i171 := by kernel_rfl
 i173 := by kernel_rfl
 i175 := by kernel_rfl
 i210 := by kernel_rfl
 i212 := by kernel_rfl
 i232 := by kernel_rfl
 i233 := by kernel_rfl
 m15 := by kernel_rfl
 m16 := by kernel_rfl
 m17 := by kernel_rfl
 m18 := by kernel_rfl
 m19 := by kernel_rfl
 c0 := by kernel_rfl
 c2 := by kernel_rfl
 c3 := by kernel_rfl
 c4 := by kernel_rfl
 c5 := by kernel_rfl
 c9 := by kernel_rfl
 c20 := by kernel_rfl
 c21 := by kernel_rfl
 c37 := by kernel_rfl
 c46 := by kernel_rfl
 c51 := by kernel_rfl
 c53 := by kernel_rfl
 c75 := by kernel_rfl
 c76 := by kernel_rfl
 c80 := by kernel_rfl
 c85 := by kernel_rfl
 c127 := by kernel_rfl
 c143 := by kernel_rfl
 c145 := by kernel_rfl
 c167 := by kernel_rfl
 c168 := by kernel_rfl
 c171 := by kernel_rfl
 c173 := by kernel_rfl
 c175 := by kernel_rfl
 c210 := by kernel_rfl
 c212 := by kernel_rfl
 c213 := by kernel_rfl
 c232 := by kernel_rfl
 c233 := by kernel_rfl
theorem atoi_bds {l : List UInt8} {v : Int} (h : Lib.atoiAll l = .ok v) : -9223372036854775808 ≤ v ∧ v ≤ 9223372036854775807 := by
 unfold Lib.atoiAll at h;(split at h)
 ·cases h
 ·(dsimp only at h);(split at h)
  ·cases h
  ·cases h
  ·(split at h)
   ·cases h
   ·(split at h)
    ·cases h
    ·(rename_i h1 h2);(injection h with h);(split at h <;> omega)
def impl_number.f (a0 : ByteArray) (a1 : Int) : Option (Int × Bool) := if a0.size ≤ 2000000 then some (match Lib.atoiAll a0.data.toList with | .ok v => (if Lib.itoa v = a0.toList then (if 0 ≤ v ∧ v ≤ a1 then (v, true) else (0, false)) else (0, false)) | _ => (0, false)) else none
set_option maxHeartbeats 8000000 in
set_option maxRecDepth 100000 in
theorem impl_number.calls (a0 : ByteArray) (a1 : Int) (r1 : Int) (r2 : Bool) (w : World) (h : impl_number.f a0 a1 = some (r1, r2)) (hT_ : Aside0 (VT w)) :
  Calls Tryz.prog 76 #[.string a0, .int .i64 a1] w fun e w' => e = .returned (.tuple #[.int .i64 r1, .bool r2]) ∧ Below w.heap.size w w' := by
 unfold impl_number.f at h;have HB := Aside0.mk (Below.refl w.heap.size w);(by_cases h1 : a0.size ≤ 2000000)
 ·rw [if_pos h1] at h;have h := Option.some.inj h
  cases hA : Lib.atoiAll a0.data.toList with
  | ok v =>
   rw [hA] at h;(dsimp only at h);obtain ⟨v1, v2⟩ := atoi_bds hA;(by_cases c1 : Lib.itoa v = a0.toList)
   ·rw [if_pos c1] at h;have c1b0 : (Lib.itoa v == a0.toList) = true := beq_iff_eq.mpr c1;have c1b1 : (Lib.itoa v != a0.toList) = false := bne_eq_false_iff_eq.mpr c1;(by_cases c2 : 0 ≤ v ∧ v ≤ a1)
    ·rw [if_pos c2] at h;(injection h with e1 e2);subst e1 e2;(have hw9 : impl_within.f v 0 a1 = some true := by unfold impl_within.f; rw [if_pos c2.1, decide_eq_true c2.2]);clear c2;go_enter Tryz.func76, Tryz.ntmps76
     go_wp2_with (first
      | ((with_reducible refine gate_callee (f := 141) rfl ?_); refine goesL_ (some 10) rfl rfl Tryz.func141 (by kernel_rfl) rfl #[.string a0] rfl itp ?_; refine (Any.strconv_Atoi_ok impl_number_lay a0 (by omega) v hA _).mono ?_; rintro e w2 ⟨rfl, hw⟩; refine ⟨_, rfl, ?_⟩; have hb : Below w.heap.size w w2 := (by rcases hw with rfl | ⟨t, rfl⟩; exact Below.refl _ _; exact bytes_below (Below.refl _ _) (Nat.le_refl _) _ _); clear hw; have HB2 := Aside0.mk (below_step HB.out hb); clear hb)
      | ((try (refine gate_guard (by rfl) ?_; dsimp only)); (with_reducible refine gate_callee (f := 142) rfl ?_); refine goesL_ (some 17) rfl rfl Tryz.func142 (by kernel_rfl) rfl #[.int .i64 v] rfl itp ?_; refine (Any.strconv_Itoa strconv_Itoa_142_lay v v1 v2 _ (vup hT_.out (upW HB2)).1).mono ?_; rintro e w3 ⟨rfl, k3, os3, rfl⟩; refine ⟨_, rfl, ?_⟩; have HB3 := Aside0.mk (below_step (upW HB2) (vt_grow _ k3 os3)))
      | ((try (refine gate_guard (by rfl) ?_; dsimp only)); (with_reducible refine gate_callee (f := 87) rfl ?_); refine goesL_ (some 24) rfl rfl Tryz.func87 (by kernel_rfl) rfl #[.int .i64 v, .int .i64 0, .int .i64 a1] rfl itp ?_; refine (impl_within.calls v 0 a1 true _ hw9).mono ?_; rintro e w4 ⟨rfl, hd4⟩; refine ⟨_, rfl, ?_⟩; have HB4 := Aside0.mk (show Below w.heap.size w w4 from by obtain ⟨nd, rfl⟩ := hd4; exact upW HB3); clear hd4))
     (go_ret2);exact ⟨by first | rfl | (simp [*] <;> rfl), upW HB4⟩
    ·rw [if_neg c2] at h;(injection h with e1 e2);subst e1 e2
     have hw9 : impl_within.f v 0 a1 = some false := by
      unfold impl_within.f;(by_cases c3 : 0 ≤ v)
      ·rw [if_pos c3, decide_eq_false (fun h => c2 ⟨c3, h⟩)]
      ·rw [if_neg c3]
     clear c2;go_enter Tryz.func76, Tryz.ntmps76
     go_wp2_with (first
      | ((with_reducible refine gate_callee (f := 141) rfl ?_); refine goesL_ (some 10) rfl rfl Tryz.func141 (by kernel_rfl) rfl #[.string a0] rfl itp ?_; refine (Any.strconv_Atoi_ok impl_number_lay a0 (by omega) v hA _).mono ?_; rintro e w2 ⟨rfl, hw⟩; refine ⟨_, rfl, ?_⟩; have hb : Below w.heap.size w w2 := (by rcases hw with rfl | ⟨t, rfl⟩; exact Below.refl _ _; exact bytes_below (Below.refl _ _) (Nat.le_refl _) _ _); clear hw; have HB2 := Aside0.mk (below_step HB.out hb); clear hb)
      | ((try (refine gate_guard (by rfl) ?_; dsimp only)); (with_reducible refine gate_callee (f := 142) rfl ?_); refine goesL_ (some 17) rfl rfl Tryz.func142 (by kernel_rfl) rfl #[.int .i64 v] rfl itp ?_; refine (Any.strconv_Itoa strconv_Itoa_142_lay v v1 v2 _ (vup hT_.out (upW HB2)).1).mono ?_; rintro e w3 ⟨rfl, k3, os3, rfl⟩; refine ⟨_, rfl, ?_⟩; have HB3 := Aside0.mk (below_step (upW HB2) (vt_grow _ k3 os3)))
      | ((try (refine gate_guard (by rfl) ?_; dsimp only)); (with_reducible refine gate_callee (f := 87) rfl ?_); refine goesL_ (some 24) rfl rfl Tryz.func87 (by kernel_rfl) rfl #[.int .i64 v, .int .i64 0, .int .i64 a1] rfl itp ?_; refine (impl_within.calls v 0 a1 false _ hw9).mono ?_; rintro e w4 ⟨rfl, hd4⟩; refine ⟨_, rfl, ?_⟩; have HB4 := Aside0.mk (show Below w.heap.size w w4 from by obtain ⟨nd, rfl⟩ := hd4; exact upW HB3); clear hd4))
     (go_ret2);exact ⟨by first | rfl | (simp [*] <;> rfl), upW HB4⟩
   ·rw [if_neg c1] at h;(injection h with e1 e2);subst e1 e2;(have c1b0 : (Lib.itoa v == a0.toList) = false := by simpa using c1);(have c1b1 : (Lib.itoa v != a0.toList) = true := by simpa using c1);go_enter Tryz.func76, Tryz.ntmps76
    go_wp2_with (first
      | ((with_reducible refine gate_callee (f := 141) rfl ?_); refine goesL_ (some 10) rfl rfl Tryz.func141 (by kernel_rfl) rfl #[.string a0] rfl itp ?_; refine (Any.strconv_Atoi_ok impl_number_lay a0 (by omega) v hA _).mono ?_; rintro e w2 ⟨rfl, hw⟩; refine ⟨_, rfl, ?_⟩; have hb : Below w.heap.size w w2 := (by rcases hw with rfl | ⟨t, rfl⟩; exact Below.refl _ _; exact bytes_below (Below.refl _ _) (Nat.le_refl _) _ _); clear hw; have HB2 := Aside0.mk (below_step HB.out hb); clear hb)
      | ((try (refine gate_guard (by rfl) ?_; dsimp only)); (with_reducible refine gate_callee (f := 142) rfl ?_); refine goesL_ (some 17) rfl rfl Tryz.func142 (by kernel_rfl) rfl #[.int .i64 v] rfl itp ?_; refine (Any.strconv_Itoa strconv_Itoa_142_lay v v1 v2 _ (vup hT_.out (upW HB2)).1).mono ?_; rintro e w3 ⟨rfl, k3, os3, rfl⟩; refine ⟨_, rfl, ?_⟩; have HB3 := Aside0.mk (below_step (upW HB2) (vt_grow _ k3 os3))))
    (go_ret2);exact ⟨by first | rfl | (simp [*] <;> rfl), upW HB3⟩
  | range =>
   rw [hA] at h;(dsimp only at h);(injection h with e1 e2);subst e1 e2;obtain ⟨_, _, ⟨te, pe, hve⟩, _⟩ := hT_.out;go_enter Tryz.func76, Tryz.ntmps76
   go_wp2_with (first
    | ((with_reducible refine gate_callee (f := 141) rfl ?_); refine goesL_ (some 10) rfl rfl Tryz.func141 (by kernel_rfl) rfl #[.string a0] rfl itp ?_; refine (Any.strconv_Atoi_range_var impl_number_lay a0 (by omega) hA te pe _ hve).mono ?_; rintro e w2 ⟨N, rfl, _, _, hb⟩; refine ⟨_, rfl, ?_⟩; have HB2 := Aside0.mk (below_step HB.out hb); clear hb))
   (go_ret2);exact ⟨by first | rfl | (simp [*] <;> rfl), upW HB2⟩
  | _ =>
   rw [hA] at h;(dsimp only at h);(injection h with e1 e2);subst e1 e2;obtain ⟨_, ⟨te, pe, hve⟩, _⟩ := hT_.out;go_enter Tryz.func76, Tryz.ntmps76
   go_wp2_with (first
    | ((with_reducible refine gate_callee (f := 141) rfl ?_); refine goesL_ (some 10) rfl rfl Tryz.func141 (by kernel_rfl) rfl #[.string a0] rfl itp ?_; refine (Any.strconv_Atoi_syntax_var impl_number_lay a0 (by omega) hA te pe _ hve).mono ?_; rintro e w2 ⟨N, rfl, _, _, hb⟩; refine ⟨_, rfl, ?_⟩; have HB2 := Aside0.mk (below_step HB.out hb); clear hb))
   (go_ret2);exact ⟨by first | rfl | (simp [*] <;> rfl), upW HB2⟩
 ·rw [if_neg h1] at h;cases h

/-! ### impl_ParseCode: function 8 -/
mutual
def impl_ParseCode.j0 : Nat → List (List Int) → ByteArray → Bool → Option ((List (List Int)) × Bool)
 | 0, _, _, _ => none
 | k + 1, x4, x5, x31 => if x31 = true then (some (([] : List (List Int)), false)) else ((strings_Split.f x5 (⟨#[41, 40]⟩ : ByteArray)).bind fun t457 => (impl_ParseCode.l0 k x4 t457 (t457.length : Int) 0))
def impl_ParseCode.l0 : Nat → List (List Int) → List ByteArray → Int → Int → Option ((List (List Int)) × Bool)
 | 0, _, _, _, _ => none
 | k + 1, x4, x33, x34, x35 => if x35 < x34 then (if 0 ≤ x35 then (if x35 < (x33.length : Int) then ((strings_Split.f (rdOf ByteArray.empty x33 x35) (⟨#[44]⟩ : ByteArray)).bind fun t465 => (impl_ParseCode.l1 k x4 (([] : List Int)) x33 x34 x35 t465 (t465.length : Int) 0)) else (none)) else (none)) else ((impl_IsCutCode.f k x4).bind fun t460 => (if t460 = true then (some (x4, true)) else (some (([] : List (List Int)), false))))
def impl_ParseCode.l1 : Nat → List (List Int) → List Int → List ByteArray → Int → Int → List ByteArray → Int → Int → Option ((List (List Int)) × Bool)
 | 0, _, _, _, _, _, _, _, _ => none
 | k + 1, x4, x10, x33, x34, x35, x41, x42, x43 => if x43 < x42 then (if 0 ≤ x43 then (if x43 < (x41.length : Int) then ((impl_number.f (rdOf ByteArray.empty x41 x43) 500).bind fun bt469 => (if bt469.2 = true then (if x10.length < 17592186044416 then (impl_ParseCode.l1 k x4 (x10 ++ [bt469.1]) x33 x34 x35 x41 x42 (wrap64 (x43 + 1))) else (none)) else (some (([] : List (List Int)), false)))) else (none)) else (none)) else (if x4.length < 5864062014805 then (impl_ParseCode.l0 k (x4 ++ [x10]) x33 x34 (wrap64 (x35 + 1))) else (none))
end
def impl_ParseCode.f (k : Nat) (a0 : ByteArray) : Option ((List (List Int)) × Bool) := (some (([] : List (List Int)) : List (List Int))).bind fun y450 => ((strings_CutPrefix.f a0 (⟨#[40]⟩ : ByteArray)).bind fun bt453 => ((strings_CutSuffix.f bt453.1 (⟨#[41]⟩ : ByteArray)).bind fun bt455 => (if bt453.2 = true then (impl_ParseCode.j0 k y450 bt455.1 (!bt455.2)) else (impl_ParseCode.j0 k y450 bt455.1 true))))
set_option maxHeartbeats 8000000 in
set_option maxRecDepth 100000 in
theorem impl_ParseCode.calls (k : Nat) (a0 : ByteArray) (r1 : List (List Int)) (r2 : Bool) (w : World) (h : impl_ParseCode.f k a0 = some (r1, r2)) (hT_ : Aside0 (VT w)) :
  Calls Tryz.prog 8 #[.string a0] w fun e w' => ∃ v0_ : Value, e = .returned (.tuple #[v0_, .bool r2]) ∧ Kd.S (Kd.slice 3 (Kd.int .i64)) 33 w' w.heap.size (fun _ => True) v0_ r1 ∧ Below w.heap.size w w' := by
 have HB := Aside0.mk (Below.refl w.heap.size w);have H : ((some (([] : List (List Int)) : List (List Int))).bind fun y450 => ((strings_CutPrefix.f a0 (⟨#[40]⟩ : ByteArray)).bind fun bt453 => ((strings_CutSuffix.f bt453.1 (⟨#[41]⟩ : ByteArray)).bind fun bt455 => (if bt453.2 = true then (impl_ParseCode.j0 k y450 bt455.1 (!bt455.2)) else (impl_ParseCode.j0 k y450 bt455.1 true))))) = some (r1, r2) := h;clear h;obtain ⟨y450, hy450⟩ : ∃ y_ : List (List Int), y_ = (([] : List (List Int))) := ⟨_, rfl⟩;(replace H : ((strings_CutPrefix.f a0 (⟨#[40]⟩ : ByteArray)).bind fun bt453 => ((strings_CutSuffix.f bt453.1 (⟨#[41]⟩ : ByteArray)).bind fun bt455 => (if bt453.2 = true then (impl_ParseCode.j0 k y450 bt455.1 (!bt455.2)) else (impl_ParseCode.j0 k y450 bt455.1 true)))) = some (r1, r2) := rwH hy450 H);have Ny450 := Aside0.mk hy450;clear hy450;replace H := Option.bind_eq_some_iff.mp H;obtain ⟨⟨t453, t454⟩, A20, H⟩ := H;replace H : ((strings_CutSuffix.f t453 (⟨#[41]⟩ : ByteArray)).bind fun bt455 => (if t454 = true then (impl_ParseCode.j0 k y450 bt455.1 (!bt455.2)) else (impl_ParseCode.j0 k y450 bt455.1 true))) = some (r1, r2) := H;have A2 := Aside0.mk A20;clear A20;replace H := Option.bind_eq_some_iff.mp H;obtain ⟨⟨t455, t456⟩, A30, H⟩ := H;replace H : (if t454 = true then (impl_ParseCode.j0 k y450 t455 (!t456)) else (impl_ParseCode.j0 k y450 t455 true)) = some (r1, r2) := H;have A3 := Aside0.mk A30;clear A30;have HC4 := Aside0.mk H;clear H;go_enter Tryz.func8, Tryz.ntmps8;(go_upto_region 4 with (first | ((with_reducible refine gate_dst (N := 15) rfl ?_); refine Kd.S_lit (Kd.slice 3 (Kd.int .i64)) _ 33 ?hg (N := 15) ?hd (xs := ([] : List (List Int))) (inner := []) (ok := fun _ => True) (okp := fun _ => True) ?hr ?hp (fun _ hk => hk) trivial (Below.refl _ _) (Nat.le_refl _) (by simp) ?_; (case hd => rfl); (case hg => rfl); (case hr => first | (go_simp; done) | (go_simp; rfl)); (case hp => exact (Reps.none _ _)); intro v451 w5 ho6 hb hg_ hnew_; clear hg_ hnew_; (first | rw [← Ny450.out] at ho6 | (simp only [Int.reduceToNat] at ho6; rw [← Ny450.out] at ho6)); have HO452 := Aside0.mk (Kd.S_lower ho6 (below_size (upW HB)));replace HB := Aside0.mk (below_step (upW HB) hb); clear hb ho6) | ((with_reducible refine gate_callee (f := 73) rfl ?_); refine goesL_ (some 18) rfl rfl Tryz.func73 (by kernel_rfl) rfl #[.string a0, .string (⟨#[40]⟩ : ByteArray)] rfl itp ?_; (with_reducible refine (strings_CutPrefix.calls a0 (⟨#[40]⟩ : ByteArray) t453 t454 _ A2.out).mono ?_); rintro e w' ⟨rfl, ⟨nd, rfl⟩⟩; refine ⟨_, rfl, ?_⟩) | ((with_reducible refine gate_callee (f := 74) rfl ?_); refine goesL_ (some 23) rfl rfl Tryz.func74 (by kernel_rfl) rfl #[.string t453, .string (⟨#[41]⟩ : ByteArray)] rfl itp ?_; (with_reducible refine (strings_CutSuffix.calls t453 (⟨#[41]⟩ : ByteArray) t455 t456 _ A3.out).mono ?_); rintro e w' ⟨rfl, ⟨nd, rfl⟩⟩; refine ⟨_, rfl, ?_⟩)));(try simp only [Act.put, List.setIfInBounds_toArray, List.set_cons_zero, List.set_cons_succ]);(go_cut [31] (fun v31 wc => ∃ (kq : Nat) (x31_3 : Bool), v31 = .bool x31_3 ∧ Aside0 (impl_ParseCode.j0 kq y450 t455 x31_3 = some (r1, r2)) ∧ Aside0 (kq ≤ k) ∧ Aside0 (Kd.S (Kd.slice 3 (Kd.int .i64)) 33 wc w.heap.size (fun _ => True) v451 y450) ∧ Aside0 (Below w.heap.size w wc)))
 case first =>
  have H := HC4.out;clear HC4;(by_cases c7 : t454 = true)
  ·subst c7;(have H1 : (impl_ParseCode.j0 k y450 t455 (!t456)) = some (r1, r2) := by rw [if_pos rfl] at H; exact H);clear H;have H := H1;clear H1;have H' := Aside0.mk H;clear H;go_wp2;(go_meet);(case rel => exact ⟨_, (!t456), (eqw), H', ⟨by first | omega | exact Nat.le_refl _⟩, ⟨by (with_reducible repeat (first | apply Kd.S_alloc | apply Kd.S_drewN | apply Kd.S_drew)); exact HO452.out⟩, ⟨upW HB⟩⟩)
  ·replace c7 := Bool.eq_false_iff.mpr c7;subst c7;(have H1 : (impl_ParseCode.j0 k y450 t455 true) = some (r1, r2) := by rw [if_neg (show ¬ (false = true) by decide)] at H; exact H);clear H;have H := H1;clear H1;have H' := Aside0.mk H;clear H;go_wp2;(go_meet);(case rel => exact ⟨_, (true), (eqw), H', ⟨by first | omega | exact Nat.le_refl _⟩, ⟨by (with_reducible repeat (first | apply Kd.S_alloc | apply Kd.S_drewN | apply Kd.S_drew)); exact HO452.out⟩, ⟨upW HB⟩⟩)
 case rest =>
  clear HC4;obtain ⟨kq, x31_3, rfl, HA, HJ3, HO_4, HB⟩ := hcut
  cases kq with
  | zero => exact absurd HA.out (by simp [impl_ParseCode.j0])
  | succ kj3 =>
   have H := HA.out;clear HA;simp only [impl_ParseCode.j0] at H;(by_cases c8 : x31_3 = true)
   ·subst c8;(have H1 : (some (([] : List (List Int)), false)) = some (r1, r2) := by rw [if_pos rfl] at H; exact H);clear H;have H := H1;clear H1;simp only [Option.some.injEq, Prod.mk.injEq] at H;obtain ⟨rfl, rfl⟩ := H;go_wp2;(go_ret2);exact ⟨_, eqv, by first | exact Kd.S_nil _ _ _ _ _ | exact Kd.N_nil _ _ _ _ _ | exact Kd.V_nil _ _ _ _ _ | exact Kd.Q_nil _ _ _ _ _ | exact Kd.R_nil _ _ _ _ _, upW HB⟩
   ·replace c8 := Bool.eq_false_iff.mpr c8;subst c8;(have H1 : ((strings_Split.f t455 (⟨#[41, 40]⟩ : ByteArray)).bind fun t457 => (impl_ParseCode.l0 kj3 y450 t457 (t457.length : Int) 0)) = some (r1, r2) := by rw [if_neg (show ¬ (false = true) by decide)] at H; exact H);clear H;have H := H1;clear H1;replace H := Option.bind_eq_some_iff.mp H;obtain ⟨t457, A90, H⟩ := H;replace H : (impl_ParseCode.l0 kj3 y450 t457 (t457.length : Int) 0) = some (r1, r2) := H;have A9 := Aside0.mk A90;clear A90;have H' := Aside0.mk H;clear H;(go_wp2_with (first | ((with_reducible refine gate_callee (f := 75) rfl ?_); refine goesL_ (some 33) rfl rfl Tryz.func75 (by kernel_rfl) rfl #[.string t455, .string (⟨#[41, 40]⟩ : ByteArray)] rfl itp ?_; (with_reducible refine (strings_Split.calls t455 (⟨#[41, 40]⟩ : ByteArray) t457 _ A9.out ?sideT).mono ?_); (case sideT => exact ⟨vup hT_.out (upW HB)⟩); rintro e w10 ⟨v458, rfl, ho0, hb⟩; refine ⟨_, rfl, ?_⟩; replace HO_4 := Aside0.mk (Kd.S_below (by (with_reducible repeat (first | apply Kd.S_alloc | apply Kd.S_drewN | apply Kd.S_drew)); exact HO_4.out) hb);have HO459 := Aside0.mk (Kd.R_lower ho0 (below_size (upW HB)));replace HB := Aside0.mk (below_step (upW HB) hb); (try clear hb ho0); obtain ⟨Ao11, co11, eo11⟩ := Kd.R_slice HO459.out; subst eo11)));(try simp only [Act.put, List.setIfInBounds_toArray, List.set_cons_succ, List.set_cons_zero]);(go_loopg [4, 35] kj3 (fun kq v4 v35 w' => ∃ (x4_2 : List (List Int)) (x35_2 : Int), v35 = .int .i64 x35_2 ∧ Aside0 (impl_ParseCode.l0 kq x4_2 t457 (t457.length : Int) x35_2 = some (r1, r2)) ∧ Aside0 (kq ≤ kj3) ∧ Aside0 (Kd.S (Kd.slice 3 (Kd.int .i64)) 33 w' w.heap.size (fun _ => True) v4 x4_2) ∧ Aside0 (Kd.R Kd.string 9 w' w.heap.size (fun _ => True) (.slice Ao11 t457.length co11) t457) ∧ Aside0 (Below w.heap.size w w')));(case atStart => exact ⟨(y450), (0), (eqw), H', ⟨Nat.le_refl _⟩, ⟨by (with_reducible repeat (first | apply Kd.S_alloc | apply Kd.S_drewN | apply Kd.S_drew)); exact HO_4.out⟩, ⟨upR HO459⟩, ⟨upW HB⟩⟩)
    case round =>
     clear H';obtain ⟨x4_2, x35_2, rfl, HA, HK2, HO_4, HO_33, HB⟩ := hrel
     cases gk with
     | zero => exact absurd HA.out (by simp [impl_ParseCode.l0])
     | succ k2 =>
      have H := HA.out;clear HA;simp only [impl_ParseCode.l0] at H;(by_cases c12 : x35_2 < (t457.length : Int))
      ·rw [if_pos c12] at H;have c12b0 := decide_eq_true c12;clear c12;(by_cases c13 : 0 ≤ x35_2)
       ·rw [if_pos c13] at H;have c13b0 := decide_eq_true c13;clear c13;(by_cases c14 : x35_2 < (t457.length : Int))
        ·rw [if_pos c14] at H;have c14b0 := decide_eq_true c14;clear c14;obtain ⟨y462, hy462⟩ : ∃ y_ : List Int, y_ = (([] : List Int)) := ⟨_, rfl⟩;(replace H : ((strings_Split.f (rdOf ByteArray.empty t457 x35_2) (⟨#[44]⟩ : ByteArray)).bind fun t465 => (impl_ParseCode.l1 k2 x4_2 y462 t457 (t457.length : Int) x35_2 t465 (t465.length : Int) 0)) = some (r1, r2) := rwH hy462 H);have Ny462 := Aside0.mk hy462;clear hy462;replace H := Option.bind_eq_some_iff.mp H;obtain ⟨t465, A150, H⟩ := H;replace H : (impl_ParseCode.l1 k2 x4_2 y462 t457 (t457.length : Int) x35_2 t465 (t465.length : Int) 0) = some (r1, r2) := H;have A15 := Aside0.mk A150;clear A150;have H' := Aside0.mk H;clear H;have p461 : 0 ≤ (x35_2 : Int) := oda;have q461 : x35_2 < (t457.length : Int) := oda;obtain ⟨ad461, e461, hx461_0⟩ := Kd.at_string (Kd.R_reads' HO_33.out).2.2 x35_2 p461 q461;cases e461;replace p461 := eq_true p461;replace q461 := eq_true q461;(go_wp2_with (first | ((with_reducible refine gate_dst (N := 39) rfl ?_); refine Kd.R_lit (Kd.int .i64) _ 3 ?hg (N := 39) ?hd (xs := ([] : List Int)) (inner := []) (ok := fun _ => True) (okp := fun _ => True) ?hr ?hp (fun _ hk => hk) trivial (Below.refl _ _) (Nat.le_refl _) (by simp) ?_; (case hd => rfl); (case hg => rfl); (case hr => first | (go_simp; done) | (go_simp; rfl)); (case hp => exact (Reps.none _ _)); intro v463 w16 ho17 hb hg_ hnew_; clear hg_ hnew_; (first | rw [← Ny462.out] at ho17 | (simp only [Int.reduceToNat] at ho17; rw [← Ny462.out] at ho17)); replace HO_4 := Aside0.mk (Kd.S_elder' (by (with_reducible repeat (first | apply Kd.S_alloc | apply Kd.S_drewN | apply Kd.S_drew)); exact HO_4.out) (Kd.R_base ho17) hb);replace HO_33 := Aside0.mk (Kd.R_below (upR HO_33) hb);have HO464 := Aside0.mk (Kd.R_lower ho17 (below_size (upW HB)));replace HB := Aside0.mk (below_step (upW HB) hb); clear hb ho17) | ((with_reducible refine gate_callee (f := 75) rfl ?_); refine goesL_ (some 41) rfl rfl Tryz.func75 (by kernel_rfl) rfl #[.string (rdOf ByteArray.empty t457 x35_2), .string (⟨#[44]⟩ : ByteArray)] rfl itp ?_; (with_reducible refine (strings_Split.calls (rdOf ByteArray.empty t457 x35_2) (⟨#[44]⟩ : ByteArray) t465 _ A15.out ?sideT).mono ?_); (case sideT => exact ⟨vup hT_.out (upW HB)⟩); rintro e w18 ⟨v466, rfl, ho0, hb⟩; refine ⟨_, rfl, ?_⟩; replace HO_4 := Aside0.mk (Kd.S_below (by (with_reducible repeat (first | apply Kd.S_alloc | apply Kd.S_drewN | apply Kd.S_drew)); exact HO_4.out) hb);replace HO464 := Aside0.mk (Kd.R_below (upR HO464) hb);have HO467 := Aside0.mk (Kd.R_lower (Kd.R_new' ho0 (Kd.R_lt (upR HO_33))) (below_size (upW HB)));replace HO_33 := Aside0.mk (Kd.R_elder' (upR HO_33) (Kd.R_base ho0) hb);replace HB := Aside0.mk (below_step (upW HB) hb); (try clear hb ho0); obtain ⟨Ao19, co19, eo19⟩ := Kd.R_slice HO467.out; subst eo19)));(try simp only [Act.put, List.setIfInBounds_toArray, List.set_cons_succ, List.set_cons_zero]);(go_loopg [10, 43] k2 (fun kq v10 v43 w' => ∃ (x10_3 : List Int) (x43_3 : Int), v43 = .int .i64 x43_3 ∧ Aside0 (impl_ParseCode.l1 kq x4_2 x10_3 t457 (t457.length : Int) x35_2 t465 (t465.length : Int) x43_3 = some (r1, r2)) ∧ Aside0 (kq ≤ k2) ∧ Aside0 (Kd.S (Kd.slice 3 (Kd.int .i64)) 33 w' w.heap.size (fun k_ => some k_ ≠ (v10 : Value).ownBlock) u4 x4_2) ∧ Aside0 (Kd.R (Kd.int .i64) 3 w' w.heap.size (fun _ => True) v10 x10_3) ∧ Aside0 (Kd.R Kd.string 9 w' w.heap.size (fun k_ => some k_ ≠ ((.slice Ao19 t465.length co19) : Value).ownBlock) (.slice (some ad461) t457.length co11) t457) ∧ Aside0 (Kd.R Kd.string 9 w' w.heap.size (fun k_ => some k_ ≠ ((.slice (some ad461) t457.length co11) : Value).ownBlock) (.slice Ao19 t465.length co19) t465) ∧ Aside0 (Below w.heap.size w w')));(case atStart => exact ⟨(y462), (0), (eqw), H', ⟨Nat.le_refl _⟩, ⟨by (with_reducible repeat (first | apply Kd.S_alloc | apply Kd.S_drewN | apply Kd.S_drew)); exact Kd.S_mono HO_4.out (fun _ hk => hk.2)⟩, ⟨upR HO464⟩, ⟨by (with_reducible repeat (first | apply Kd.R_alloc | apply Kd.R_drewN | apply Kd.R_drew)); exact Kd.R_mono HO_33.out (fun _ hk => hk.2)⟩, ⟨by (with_reducible repeat (first | apply Kd.R_alloc | apply Kd.R_drewN | apply Kd.R_drew)); exact Kd.R_mono HO467.out (fun _ hk => hk.2)⟩, ⟨upW HB⟩⟩)
         case round =>
          clear H';(try clear c12b0 c13b0 c14b0 hx461_0 p461 q461);obtain ⟨x10_3, x43_3, rfl, HA, HK3, HO_4, HO_10, HO_33, HO_41, HB⟩ := hrel
          cases gk with
          | zero => exact absurd HA.out (by simp [impl_ParseCode.l1])
          | succ k3 =>
           have H := HA.out;clear HA;simp only [impl_ParseCode.l1] at H;(by_cases c20 : x43_3 < (t465.length : Int))
           ·rw [if_pos c20] at H;have c20b0 := decide_eq_true c20;clear c20;(by_cases c21 : 0 ≤ x43_3)
            ·rw [if_pos c21] at H;have c21b0 := decide_eq_true c21;clear c21;(by_cases c22 : x43_3 < (t465.length : Int))
             ·rw [if_pos c22] at H;have c22b0 := decide_eq_true c22;clear c22;replace H := Option.bind_eq_some_iff.mp H;obtain ⟨⟨t469, t470⟩, A230, H⟩ := H;replace H : (if t470 = true then (if x10_3.length < 17592186044416 then (impl_ParseCode.l1 k3 x4_2 (x10_3 ++ [t469]) t457 (t457.length : Int) x35_2 t465 (t465.length : Int) (wrap64 (x43_3 + 1))) else (none)) else (some (([] : List (List Int)), false))) = some (r1, r2) := H;have A23 := Aside0.mk A230;clear A230;(by_cases c24 : t470 = true)
              ·subst c24;(have H1 : (if x10_3.length < 17592186044416 then (impl_ParseCode.l1 k3 x4_2 (x10_3 ++ [t469]) t457 (t457.length : Int) x35_2 t465 (t465.length : Int) (wrap64 (x43_3 + 1))) else (none)) = some (r1, r2) := by rw [if_pos rfl] at H; exact H);clear H;have H := H1;clear H1;(by_cases c25 : x10_3.length < 17592186044416)
               ·rw [if_pos c25] at H;have LMc25 := Aside0.mk c25;clear c25;obtain ⟨y471, hy471⟩ : ∃ y_ : List Int, y_ = (x10_3 ++ [t469]) := ⟨_, rfl⟩;(replace H : (impl_ParseCode.l1 k3 x4_2 y471 t457 (t457.length : Int) x35_2 t465 (t465.length : Int) (wrap64 (x43_3 + 1))) = some (r1, r2) := rwH hy471 H);have Ny471 := Aside0.mk hy471;clear hy471;have H' := Aside0.mk H;clear H;have p468 : 0 ≤ (x43_3 : Int) := oda;have q468 : x43_3 < (t465.length : Int) := oda;obtain ⟨ad468, e468, hx468_0⟩ := Kd.at_string (Kd.R_reads' HO_41.out).2.2 x43_3 p468 q468;cases e468;replace p468 := eq_true p468;replace q468 := eq_true q468;(go_wp2_with (first | ((with_reducible refine gate_callee (f := 76) rfl ?_); refine goesL_ (some 49) rfl rfl Tryz.func76 (by kernel_rfl) rfl #[.string (rdOf ByteArray.empty t465 x43_3), .int .i64 500] rfl itp ?_; (with_reducible refine (impl_number.calls (rdOf ByteArray.empty t465 x43_3) 500 t469 true _ A23.out ?sideT).mono ?_); (case sideT => exact ⟨vup hT_.out (upW HB)⟩); rintro e w26 ⟨rfl, hb⟩; refine ⟨_, rfl, ?_⟩; replace HO_4 := Aside0.mk (Kd.S_below (by (with_reducible repeat (first | apply Kd.S_alloc | apply Kd.S_drewN | apply Kd.S_drew)); exact HO_4.out) hb);replace HO_10 := Aside0.mk (Kd.R_below (upR HO_10) hb);replace HO_33 := Aside0.mk (Kd.R_below (upR HO_33) hb);replace HO_41 := Aside0.mk (Kd.R_below (upR HO_41) hb);replace HB := Aside0.mk (below_step (upW HB) hb); (try clear hb)) | ((with_reducible refine gate_builtin (b := .append) (xs := #[.tmp 54, .tmp 56]) rfl ?_); at_builtin; refine Kd.R_append (Kd.int .i64) (w0 := w) w.heap.size rfl (.tmp 54) (.tmp 56) 33 3 (.int .i64 0) 8 rfl Tryz.underlying33 info3 rfl (by decide) (by omega) u10 x10_3 t469 [.int .i64 t469] (fun _ => True) (fun _ => False) rfl rfl ?aP (fun _ hk => hk.elim) ?aF ?aO ?aB ?aS ?aL ?_; (case aP => exact rfl); (case aB => exact (upW HB)); (case aF => exact (fun _ _ => trivial)); (case aO => exact (upR HO_10)); (case aS => exact (below_size (upW HB))); (case aL => have := LMc25.out; omega); intro v472 w27 ho hb hg hat; rw [← Ny471.out] at ho; have n0_ := Aside0.mk (Kd.S_after (ok := (fun _ => True)) (by (with_reducible repeat (first | apply Kd.S_alloc | apply Kd.S_drewN | apply Kd.S_drew)); exact Kd.S_mono HO_4.out (fun _ hk => ⟨trivial, hk⟩)) hg hat); have n1_ := Aside0.mk (Kd.R_over' (upR HO_33) (Kd.R_typed (upR HO_10)) (by decide) hg); have n2_ := Aside0.mk (Kd.R_over' (upR HO_41) (Kd.R_typed (upR HO_10)) (by decide) hg); have n3_ := Aside0.mk (hb); have n4_ := Aside0.mk (ho); clear HO_4; clear HO_33; clear HO_41; clear HB; clear HO_10; have HO_4 := n0_; have HO_33 := n1_; have HO_41 := n2_; have HB := n3_; have HO473 := n4_; clear n0_ n1_ n2_ n3_ n4_; clear ho hb hg hat)));go_roundg k3;(case measure => have := HJ3.out; have := HK2.out; have := HK3.out; omega);(case rel => exact ⟨(y471), (wrap64 (x43_3 + 1)), (eqw), H', ⟨by have := HJ3.out; have := HK2.out; have := HK3.out; omega⟩, ⟨by (with_reducible repeat (first | apply Kd.S_alloc | apply Kd.S_drewN | apply Kd.S_drew)); exact Kd.S_mono HO_4.out (fun _ hk => hk.2)⟩, ⟨upR HO473⟩, ⟨upR HO_33⟩, ⟨upR HO_41⟩, ⟨upW HB⟩⟩)
               ·rw [if_neg c25] at H;exact absurd H (by simp)
              ·replace c24 := Bool.eq_false_iff.mpr c24;subst c24;(have H1 : (some (([] : List (List Int)), false)) = some (r1, r2) := by rw [if_neg (show ¬ (false = true) by decide)] at H; exact H);clear H;have H := H1;clear H1;simp only [Option.some.injEq, Prod.mk.injEq] at H;obtain ⟨rfl, rfl⟩ := H;have p468 : 0 ≤ (x43_3 : Int) := oda;have q468 : x43_3 < (t465.length : Int) := oda;obtain ⟨ad468, e468, hx468_0⟩ := Kd.at_string (Kd.R_reads' HO_41.out).2.2 x43_3 p468 q468;cases e468;replace p468 := eq_true p468;replace q468 := eq_true q468;(go_wp2_with (first | ((with_reducible refine gate_callee (f := 76) rfl ?_); refine goesL_ (some 49) rfl rfl Tryz.func76 (by kernel_rfl) rfl #[.string (rdOf ByteArray.empty t465 x43_3), .int .i64 500] rfl itp ?_; (with_reducible refine (impl_number.calls (rdOf ByteArray.empty t465 x43_3) 500 t469 false _ A23.out ?sideT).mono ?_); (case sideT => exact ⟨vup hT_.out (upW HB)⟩); rintro e w28 ⟨rfl, hb⟩; refine ⟨_, rfl, ?_⟩; replace HO_4 := Aside0.mk (Kd.S_below (by (with_reducible repeat (first | apply Kd.S_alloc | apply Kd.S_drewN | apply Kd.S_drew)); exact HO_4.out) hb);replace HO_10 := Aside0.mk (Kd.R_below (upR HO_10) hb);replace HO_33 := Aside0.mk (Kd.R_below (upR HO_33) hb);replace HO_41 := Aside0.mk (Kd.R_below (upR HO_41) hb);replace HB := Aside0.mk (below_step (upW HB) hb); (try clear hb))));(go_ret2);exact ⟨_, eqv, by first | exact Kd.S_nil _ _ _ _ _ | exact Kd.N_nil _ _ _ _ _ | exact Kd.V_nil _ _ _ _ _ | exact Kd.Q_nil _ _ _ _ _ | exact Kd.R_nil _ _ _ _ _, upW HB⟩
             ·rw [if_neg c22] at H;exact absurd H (by simp)
            ·rw [if_neg c21] at H;exact absurd H (by simp)
           ·rw [if_neg c20] at H;have c20b0 := decide_eq_false c20;clear c20;(by_cases c29 : x4_2.length < 5864062014805)
            ·rw [if_pos c29] at H;have LMc29 := Aside0.mk c29;clear c29;obtain ⟨y474, hy474⟩ : ∃ y_ : List (List Int), y_ = (x4_2 ++ [x10_3]) := ⟨_, rfl⟩;(replace H : (impl_ParseCode.l0 k3 y474 t457 (t457.length : Int) (wrap64 (x35_2 + 1))) = some (r1, r2) := rwH hy474 H);have Ny474 := Aside0.mk hy474;clear hy474;have H' := Aside0.mk H;clear H;obtain ⟨Ao31, co31, eo31⟩ := Kd.R_slice HO_10.out;subst eo31;(go_wp2_with (first | ((with_reducible refine gate_builtin (b := .append) (xs := #[.tmp 59, .tmp 61]) rfl ?_); at_builtin; refine Kd.S_append (Kd.slice 3 (Kd.int .i64)) (w0 := w) w.heap.size rfl (.tmp 59) (.tmp 61) 22 33 (.slice none 0 0) 24 rfl Tryz.underlying22 info33 rfl (by decide) (by omega) u4 x4_2 x10_3 [.slice Ao31 x10_3.length co31] (fun _ => True) (fun k_ => some k_ = (.slice Ao31 x10_3.length co31 : Value).ownBlock) rfl rfl ?aP (fun k_ hk_ => ((Kd.R_mono (ok' := fun k_ => ((fun _ => True)) k_ ∧ some k_ ≠ (u4 : Value).ownBlock) (Kd.R_apart' (HO_10.out) (Kd.S_typed HO_4.out) (by decide)) (fun k_ hk => ⟨trivial, hk.2⟩))).1 k_ hk_.symm) ?aF ?aO ?aB ?aS ?aL ?_; (case aP => exact Kd.M_row (Kd.R_mono (Kd.R_tight rfl (Kd.R_mono (ok' := fun k_ => ((fun _ => True)) k_ ∧ some k_ ≠ (u4 : Value).ownBlock) (Kd.R_apart' (HO_10.out) (Kd.S_typed HO_4.out) (by decide)) (fun k_ hk => ⟨trivial, hk.2⟩))) (fun _ h_ => h_))); (case aB => exact (upW HB)); (case aF => exact (fun _ _ => trivial)); (case aO => exact (by (with_reducible repeat (first | apply Kd.S_alloc | apply Kd.S_drewN | apply Kd.S_drew)); exact Kd.S_mono HO_4.out (fun k_ hk => ⟨trivial, fun e_ => hk e_⟩))); (case aS => exact (below_size (upW HB))); (case aL => have := LMc29.out; omega); intro v475 w30 ho hb hg hat; rw [← Ny474.out] at ho; have n0_ := Aside0.mk (Kd.R_over' (upR HO_33) (Kd.S_typed (by (with_reducible repeat (first | apply Kd.S_alloc | apply Kd.S_drewN | apply Kd.S_drew)); exact HO_4.out)) (by decide) hg); have n1_ := Aside0.mk (Kd.R_over' (upR HO_41) (Kd.S_typed (by (with_reducible repeat (first | apply Kd.S_alloc | apply Kd.S_drewN | apply Kd.S_drew)); exact HO_4.out)) (by decide) hg); have n2_ := Aside0.mk (hb); have n3_ := Aside0.mk (ho); clear HO_33; clear HO_41; clear HB; clear HO_4; clear HO_10; have HO_33 := n0_; have HO_41 := n1_; have HB := n2_; have HO476 := n3_; clear n0_ n1_ n2_ n3_; clear ho hb hg hat)));go_roundg k3;(case measure => have := HJ3.out; have := HK2.out; have := HK3.out; omega);(case rel => exact ⟨(y474), (wrap64 (x35_2 + 1)), (eqw), H', ⟨by have := HJ3.out; have := HK2.out; have := HK3.out; omega⟩, ⟨by (with_reducible repeat (first | apply Kd.S_alloc | apply Kd.S_drewN | apply Kd.S_drew)); exact HO476.out⟩, ⟨by (with_reducible repeat (first | apply Kd.R_alloc | apply Kd.R_drewN | apply Kd.R_drew)); exact Kd.R_mono HO_33.out (fun _ hk => trivial)⟩, ⟨upW HB⟩⟩)
            ·rw [if_neg c29] at H;exact absurd H (by simp)
        ·rw [if_neg c14] at H;exact absurd H (by simp)
       ·rw [if_neg c13] at H;exact absurd H (by simp)
      ·rw [if_neg c12] at H;have c12b0 := decide_eq_false c12;clear c12;replace H := Option.bind_eq_some_iff.mp H;obtain ⟨t460, A320, H⟩ := H;replace H : (if t460 = true then (some (x4_2, true)) else (some (([] : List (List Int)), false))) = some (r1, r2) := H;have A32 := Aside0.mk A320;clear A320;(by_cases c33 : t460 = true)
       ·subst c33;(have H1 : (some (x4_2, true)) = some (r1, r2) := by rw [if_pos rfl] at H; exact H);clear H;have H := H1;clear H1;simp only [Option.some.injEq, Prod.mk.injEq] at H;obtain ⟨rfl, rfl⟩ := H;obtain ⟨Ao34, co34, eo34⟩ := Kd.S_slice HO_4.out;subst eo34;(go_wp2_with (first | ((with_reducible refine gate_callee (f := 66) rfl ?_); refine goesL_ (some 65) rfl rfl Tryz.func66 (by kernel_rfl) rfl #[.slice Ao34 x4_2.length co34] rfl itp ?_; (with_reducible refine (impl_IsCutCode.calls k2 _ _ x4_2 true _ ?side1 ?side2 A32.out).mono ?_); (case side1 => exact upC (Kd.S_reads' HO_4.out).2.2); (case side2 => exact (Kd.S_reads' HO_4.out).2.1); rintro e w35 ⟨rfl, hb⟩; refine ⟨_, rfl, ?_⟩; replace HO_4 := Aside0.mk (Kd.S_below (by (with_reducible repeat (first | apply Kd.S_alloc | apply Kd.S_drewN | apply Kd.S_drew)); exact HO_4.out) hb);replace HO_33 := Aside0.mk (Kd.R_below (upR HO_33) hb);replace HB := Aside0.mk (below_step (upW HB) hb); (try clear hb))));(go_ret2);exact ⟨_, eqv, by (with_reducible repeat (first | apply Kd.S_alloc | apply Kd.S_drewN | apply Kd.S_drew)); exact HO_4.out, upW HB⟩
       ·replace c33 := Bool.eq_false_iff.mpr c33;subst c33;(have H1 : (some (([] : List (List Int)), false)) = some (r1, r2) := by rw [if_neg (show ¬ (false = true) by decide)] at H; exact H);clear H;have H := H1;clear H1;simp only [Option.some.injEq, Prod.mk.injEq] at H;obtain ⟨rfl, rfl⟩ := H;obtain ⟨Ao36, co36, eo36⟩ := Kd.S_slice HO_4.out;subst eo36;(go_wp2_with (first | ((with_reducible refine gate_callee (f := 66) rfl ?_); refine goesL_ (some 65) rfl rfl Tryz.func66 (by kernel_rfl) rfl #[.slice Ao36 x4_2.length co36] rfl itp ?_; (with_reducible refine (impl_IsCutCode.calls k2 _ _ x4_2 false _ ?side1 ?side2 A32.out).mono ?_); (case side1 => exact upC (Kd.S_reads' HO_4.out).2.2); (case side2 => exact (Kd.S_reads' HO_4.out).2.1); rintro e w37 ⟨rfl, hb⟩; refine ⟨_, rfl, ?_⟩; replace HO_4 := Aside0.mk (Kd.S_below (by (with_reducible repeat (first | apply Kd.S_alloc | apply Kd.S_drewN | apply Kd.S_drew)); exact HO_4.out) hb);replace HO_33 := Aside0.mk (Kd.R_below (upR HO_33) hb);replace HB := Aside0.mk (below_step (upW HB) hb); (try clear hb))));(go_ret2);exact ⟨_, eqv, by first | exact Kd.S_nil _ _ _ _ _ | exact Kd.N_nil _ _ _ _ _ | exact Kd.V_nil _ _ _ _ _ | exact Kd.Q_nil _ _ _ _ _ | exact Kd.R_nil _ _ _ _ _, upW HB⟩

/-! ### laws_eqIntS: function 77 -/
def laws_eqIntS.l0 : Nat → List Int → List Int → Int → Option (Bool)
 | 0, _, _, _ => none
 | k + 1, x0, x1, x5 => if x5 < (x0.length : Int) then (if 0 ≤ x5 then (if x5 < (x1.length : Int) then (if (rd x0 x5) = (rd x1 x5) then (laws_eqIntS.l0 k x0 x1 (wrap64 (x5 + 1))) else (some false)) else (none)) else (none)) else (some true)
def laws_eqIntS.f (k : Nat) (l0 : List Int) (l1 : List Int) : Option (Bool) := if (l0.length : Int) = (l1.length : Int) then (laws_eqIntS.l0 k l0 l1 0) else (some false)
set_option maxHeartbeats 8000000 in
set_option maxRecDepth 100000 in
theorem laws_eqIntS.calls (k : Nat) (A0 : Option Addr) (c0 : Nat) (l0 : List Int) (A1 : Option Addr) (c1 : Nat) (l1 : List Int) (r : Bool) (w : World) (hr0 : Kd.C (Kd.int .i64) w A0 l0.length l0) (hc0 : l0.length ≤ c0) (hr1 : Kd.C (Kd.int .i64) w A1 l1.length l1) (hc1 : l1.length ≤ c1) (h : laws_eqIntS.f k l0 l1 = some r) :
  Calls Tryz.prog 77 #[.slice A0 l0.length c0, .slice A1 l1.length c1] w fun e w' => e = .returned (.bool r) ∧ Drawn0 w w' := by
 have HR0 := Aside0.mk hr0;have HC0 := Aside0.mk hc0;clear hr0 hc0;have HR1 := Aside0.mk hr1;have HC1 := Aside0.mk hc1;clear hr1 hc1;have H : (if (l0.length : Int) = (l1.length : Int) then (laws_eqIntS.l0 k l0 l1 0) else (some false)) = some r := h;clear h;(by_cases c3 : (l0.length : Int) = (l1.length : Int))
 ·rw [if_pos c3] at H;have c3b0 : ((l0.length : Int) == (l1.length : Int)) = true := beq_iff_eq.mpr c3;have c3b1 : ((l0.length : Int) != (l1.length : Int)) = false := bne_eq_false_iff_eq.mpr c3;(have c3b2 : (l0.length == l1.length) = true := by first | simpa using c3 | (simp at c3 ⊢; omega));clear c3;have H' := Aside0.mk H;clear H;go_enter Tryz.func77, Tryz.ntmps77;go_wp2;(repeat (go_quiet (fail); try go_wp2));(go_loopg [5] k (fun kq v5 w' => ∃ (x5_1 : Int), v5 = .int .i64 x5_1 ∧ Aside0 (laws_eqIntS.l0 kq l0 l1 x5_1 = some r) ∧ Aside0 (kq ≤ k) ∧ Drawn0 w w'));(case atStart => exact ⟨(0), (eqw), H', ⟨Nat.le_refl _⟩, dz⟩)
  case round =>
   clear H';(try clear c3b0 c3b1 c3b2);obtain ⟨x5_1, rfl, HA, HK1, ⟨m1, rfl⟩⟩ := hrel
   cases gk with
   | zero => exact absurd HA.out (by simp [laws_eqIntS.l0])
   | succ k1 =>
    have H := HA.out;clear HA;simp only [laws_eqIntS.l0] at H;(by_cases c4 : x5_1 < (l0.length : Int))
    ·rw [if_pos c4] at H;have c4b0 := decide_eq_true c4;clear c4;(by_cases c5 : 0 ≤ x5_1)
     ·rw [if_pos c5] at H;have c5b0 := decide_eq_true c5;clear c5;(by_cases c6 : x5_1 < (l1.length : Int))
      ·rw [if_pos c6] at H;have c6b0 := decide_eq_true c6;clear c6;(by_cases c7 : (rd l0 x5_1) = (rd l1 x5_1))
       ·rw [if_pos c7] at H;have c7b0 : ((rd l0 x5_1) == (rd l1 x5_1)) = true := beq_iff_eq.mpr c7;have c7b1 : ((rd l0 x5_1) != (rd l1 x5_1)) = false := bne_eq_false_iff_eq.mpr c7;clear c7;have H' := Aside0.mk H;clear H;have p477 : 0 ≤ (x5_1 : Int) := oda;have q477 : x5_1 < (l0.length : Int) := oda;obtain ⟨ad477, e477, hx477_0⟩ := Kd.at_int HR0.out x5_1 p477 q477;cases e477;replace p477 := eq_true p477;replace q477 := eq_true q477;have p478 : 0 ≤ (x5_1 : Int) := oda;have q478 : x5_1 < (l1.length : Int) := oda;obtain ⟨ad478, e478, hx478_0⟩ := Kd.at_int HR1.out x5_1 p478 q478;cases e478;replace p478 := eq_true p478;replace q478 := eq_true q478;go_wp2;(repeat (go_quiet (fail); try go_wp2));go_roundg k1;(case measure => have := HK1.out; omega);(case rel => exact ⟨(wrap64 (x5_1 + 1)), (eqw), H', ⟨by have := HK1.out; omega⟩, dz⟩)
       ·rw [if_neg c7] at H;have c7b0 : ((rd l0 x5_1) == (rd l1 x5_1)) = false := beq_eq_false_iff_ne.mpr c7;have c7b1 : ((rd l0 x5_1) != (rd l1 x5_1)) = true := bne_iff_ne.mpr c7;obtain rfl := Option.some.inj H;have p477 : 0 ≤ (x5_1 : Int) := oda;have q477 : x5_1 < (l0.length : Int) := oda;obtain ⟨ad477, e477, hx477_0⟩ := Kd.at_int HR0.out x5_1 p477 q477;cases e477;replace p477 := eq_true p477;replace q477 := eq_true q477;have p478 : 0 ≤ (x5_1 : Int) := oda;have q478 : x5_1 < (l1.length : Int) := oda;obtain ⟨ad478, e478, hx478_0⟩ := Kd.at_int HR1.out x5_1 p478 q478;cases e478;replace p478 := eq_true p478;replace q478 := eq_true q478;go_wp2;(repeat (go_quiet (fail); try go_wp2));go_ret;exact ⟨eqw, dz⟩
      ·rw [if_neg c6] at H;exact absurd H (by simp)
     ·rw [if_neg c5] at H;exact absurd H (by simp)
    ·rw [if_neg c4] at H;have c4b0 := decide_eq_false c4;clear c4;obtain rfl := Option.some.inj H;go_wp2;(repeat (go_quiet (fail); try go_wp2));go_ret;exact ⟨eqw, dz⟩
 ·rw [if_neg c3] at H;have c3b0 : ((l0.length : Int) == (l1.length : Int)) = false := beq_eq_false_iff_ne.mpr c3;have c3b1 : ((l0.length : Int) != (l1.length : Int)) = true := bne_iff_ne.mpr c3;(have c3b2 : (l0.length == l1.length) = false := by first | simpa using c3 | (simp at c3 ⊢; omega));obtain rfl := Option.some.inj H;go_enter Tryz.func77, Tryz.ntmps77;go_wp2;(repeat (go_quiet (fail); try go_wp2));go_ret;exact ⟨eqw, dz⟩

end Go.Proofs.YtnmaeekclpmmnaaGreatDoor.PFnExactParseCode
