/- FnExactEven: for every input the law answers true, and its argument reads as before; the listed tables are tied to the program's text. -/
import Derived.Test.YtmabfdnconccnaaGreatDoorEvenLaw
import Derived.Test.YtmabfdnconccnaaGreatDoorEvenFacts
import Derived.Test.YtmabfdnconccnaaGreatDoorEv4
import Derived.Test.YtmabfdnconccnaaGreatDoorLib
import Derived.Test.YtmabfdnconccnaaGreatDoorRows
import Derived.Test.YtmabfdnconccnaaGreatDoorCards
import Derived.Test.YtmabfdnconccnaaGreatDoorTie
import Derived.Shelf.Strconv.Atoi
import Derived.ProofKit
import Derived.Lay
import Derived.MakeChecks
import Derived.SevenTiedAt
import Derived.LaidLaws
import Derived.Handed
import Derived.Carry
namespace Go.Proofs.YtmabfdnconccnaaGreatDoor
open Go Go.Ev Go.Shelf Go.ChangeShapes Go.WideShapes Go.ChangeAt Go.RowKit
def Tryz.laysAtoi_ren : Go.Shelf.Ren := ⟨fun | 172 => 239 | 244 => 248 | 245 => 249 | 247 => 254 | 279 => 255 | 280 => 256 | 281 => 257 | 282 => 258 | 287 => 261 | 316 => 262 | 171 => 32 | 205 => 263 | 321 => 264 | 322 => 265 | 243 => 59 | 246 => 94 | 283 => 133 | 284 => 134 | 285 => 135 | 286 => 136 | 129 => 165 | 317 => 164 | 318 => 166 | 319 => 167 | 320 => 168 | 337 => 193 | 338 => 194 | n => n, fun | 9 => 9 | 3 => 3 | 75 => 284 | 76 => 285 | 4 => 4 | 5 => 5 | 167 => 295 | 37 => 72 | 0 => 0 | 85 => 296 | 2 => 2 | 168 => 298 | 53 => 188 | 175 => 306 | 46 => 218 | 210 => 310 | 127 => 313 | 145 => 316 | 143 => 314 | 21 => 21 | 171 => 187 | 173 => 191 | 212 => 215 | 51 => 216 | 20 => 20 | 213 => 217 | 232 => 260 | 233 => 261 | 80 => 317 | n => n, fun | 15 => 6 | 16 => 7 | 17 => 0 | 18 => 1 | 19 => 2 | n => n⟩
theorem Tryz.laysAtoi : Go.Proofs.Lays.n172 Tryz.prog Tryz.laysAtoi_ren where
  mixed := by kernel_rfl
  f129 := Tryz.func165.trans (congrArg some (by kernel_rfl))
  f171 := Tryz.func32.trans (congrArg some (by kernel_rfl))
  f172 := Tryz.func239.trans (congrArg some (by kernel_rfl))
  f205 := Tryz.func263.trans (congrArg some (by kernel_rfl))
  f243 := Tryz.func59.trans (congrArg some (by kernel_rfl))
  f244 := Tryz.func248.trans (congrArg some (by kernel_rfl))
  f245 := Tryz.func249.trans (congrArg some (by kernel_rfl))
  f246 := Tryz.func94.trans (congrArg some (by kernel_rfl))
  f247 := Tryz.func254.trans (congrArg some (by kernel_rfl))
  f279 := Tryz.func255.trans (congrArg some (by kernel_rfl))
  f280 := Tryz.func256.trans (congrArg some (by kernel_rfl))
  f281 := Tryz.func257.trans (congrArg some (by kernel_rfl))
  f282 := Tryz.func258.trans (congrArg some (by kernel_rfl))
  f283 := Tryz.func133.trans (congrArg some (by kernel_rfl))
  f284 := Tryz.func134.trans (congrArg some (by kernel_rfl))
  f285 := Tryz.func135.trans (congrArg some (by kernel_rfl))
  f286 := Tryz.func136.trans (congrArg some (by kernel_rfl))
  f287 := Tryz.func261.trans (congrArg some (by kernel_rfl))
  f316 := Tryz.func262.trans (congrArg some (by kernel_rfl))
  f317 := Tryz.func164.trans (congrArg some (by kernel_rfl))
  f318 := Tryz.func166.trans (congrArg some (by kernel_rfl))
  f319 := Tryz.func167.trans (congrArg some (by kernel_rfl))
  f320 := Tryz.func168.trans (congrArg some (by kernel_rfl))
  f321 := Tryz.func264.trans (congrArg some (by kernel_rfl))
  f322 := Tryz.func265.trans (congrArg some (by kernel_rfl))
  f337 := Tryz.func193.trans (congrArg some (by kernel_rfl))
  f338 := Tryz.func194.trans (congrArg some (by kernel_rfl))
  t0 := Tryz.underlying0
  a0 := Tryz.isAgg0
  z0 := Tryz.sizeOf0
  v0 := Tryz.zeroValue0
  t2 := Tryz.underlying2
  a2 := Tryz.isAgg2
  z2 := Tryz.sizeOf2
  v2 := Tryz.zeroValue2
  t3 := Tryz.underlying3
  a3 := Tryz.isAgg3
  z3 := Tryz.sizeOf3
  v3 := Tryz.zeroValue3
  t4 := Tryz.underlying4
  a4 := Tryz.isAgg4
  z4 := Tryz.sizeOf4
  v4 := Tryz.zeroValue4
  t5 := Tryz.underlying5
  a5 := Tryz.isAgg5
  z5 := Tryz.sizeOf5
  v5 := Tryz.zeroValue5
  t9 := Tryz.underlying9
  a9 := Tryz.isAgg9
  z9 := Tryz.sizeOf9
  v9 := Tryz.zeroValue9
  t20 := Tryz.underlying20
  a20 := Tryz.isAgg20
  z20 := Tryz.sizeOf20
  v20 := Tryz.zeroValue20
  t21 := Tryz.underlying21
  a21 := Tryz.isAgg21
  z21 := Tryz.sizeOf21
  v21 := Tryz.zeroValue21
  t37 := Tryz.underlying72
  a37 := Tryz.isAgg72
  z37 := Tryz.sizeOf72
  v37 := Tryz.zeroValue72
  t46 := Tryz.underlying218
  a46 := Tryz.isAgg218
  z46 := Tryz.sizeOf218
  v46 := Tryz.zeroValue218
  t51 := Tryz.underlying216
  a51 := Tryz.isAgg216
  z51 := Tryz.sizeOf216
  v51 := Tryz.zeroValue216
  t53 := Tryz.underlying188
  a53 := Tryz.isAgg188
  z53 := Tryz.sizeOf188
  v53 := Tryz.zeroValue188
  t75 := Tryz.underlying284
  a75 := Tryz.isAgg284
  z75 := Tryz.sizeOf284
  v75 := Tryz.zeroValue284
  t76 := Tryz.underlying285
  a76 := Tryz.isAgg285
  z76 := Tryz.sizeOf285
  v76 := Tryz.zeroValue285
  t85 := Tryz.underlying296
  a85 := Tryz.isAgg296
  z85 := Tryz.sizeOf296
  v85 := Tryz.zeroValue296
  t127 := Tryz.underlying313
  a127 := Tryz.isAgg313
  z127 := Tryz.sizeOf313
  v127 := Tryz.zeroValue313
  t143 := Tryz.underlying314
  a143 := Tryz.isAgg314
  z143 := Tryz.sizeOf314
  v143 := Tryz.zeroValue314
  t145 := Tryz.underlying316
  a145 := Tryz.isAgg316
  z145 := Tryz.sizeOf316
  v145 := Tryz.zeroValue316
  t167 := Tryz.underlying295
  a167 := Tryz.isAgg295
  z167 := Tryz.sizeOf295
  v167 := Tryz.zeroValue295
  t168 := Tryz.underlying298
  a168 := Tryz.isAgg298
  z168 := Tryz.sizeOf298
  v168 := Tryz.zeroValue298
  t171 := Tryz.underlying187
  a171 := Tryz.isAgg187
  z171 := Tryz.sizeOf187
  v171 := Tryz.zeroValue187
  t173 := Tryz.underlying191
  a173 := Tryz.isAgg191
  z173 := Tryz.sizeOf191
  v173 := Tryz.zeroValue191
  t175 := Tryz.underlying306
  a175 := Tryz.isAgg306
  z175 := Tryz.sizeOf306
  v175 := Tryz.zeroValue306
  t210 := Tryz.underlying310
  a210 := Tryz.isAgg310
  z210 := Tryz.sizeOf310
  v210 := Tryz.zeroValue310
  t212 := Tryz.underlying215
  a212 := Tryz.isAgg215
  z212 := Tryz.sizeOf215
  v212 := Tryz.zeroValue215
  t213 := Tryz.underlying217
  a213 := Tryz.isAgg217
  z213 := Tryz.sizeOf217
  t232 := Tryz.underlying260
  a232 := Tryz.isAgg260
  z232 := Tryz.sizeOf260
  v232 := Tryz.zeroValue260
  t233 := Tryz.underlying261
  a233 := Tryz.isAgg261
  z233 := Tryz.sizeOf261
  v233 := Tryz.zeroValue261
  g15 := by kernel_rfl
  g16 := by kernel_rfl
  g17 := by kernel_rfl
  g18 := by kernel_rfl
  g19 := by kernel_rfl
theorem mix : Tryz.prog.follows .mixedOrders = true := by kernel_rfl
theorem own : ownKnob Tryz.prog.godebug = none := by kernel_rfl
theorem laidOut : laidOutB Tryz.prog = true := by kernel_rfl
theorem prim_strings_IndexByte {gl : Glob} : ∀ p, en_strings_IndexByte.prim = some p → ∀ ds r, p ds = some r → Contract Tryz.prog gl en_strings_IndexByte ds r := by
  intro p hp ds r h
  have e : p = primIndexByte := (Option.some.inj hp).symm
  subst e
  exact index_contract (fun s c w => Tryz.strings_IndexByte s c w) ds r h
theorem prim_strings_Contains {gl : Glob} : ∀ p, en_strings_Contains.prim = some p → ∀ ds r, p ds = some r → Contract Tryz.prog gl en_strings_Contains ds r := by
  intro p hp ds r h
  have e : p = primContains := (Option.some.inj hp).symm
  subst e
  exact contains_contract (fun s c w => Tryz.strings_Contains_one s c w) ds r h
theorem prim_strconv_Atoi {gl : Glob} : ∀ p, en_strconv_Atoi.prim = some p → ∀ ds r, p ds = some r → Contract Tryz.prog gl en_strconv_Atoi ds r := by
  intro p hp ds r h
  have e : p = primAtoi := (Option.some.inj hp).symm
  subst e
  exact atoi_contract (fun s n hl hn w => Any.strconv_Atoi Tryz.laysAtoi s n hl hn w) ds r h
theorem prim_strings_Compare {gl : Glob} : ∀ p, en_strings_Compare.prim = some p → ∀ ds r, p ds = some r → Contract Tryz.prog gl en_strings_Compare ds r := by
  intro p hp ds r h
  have e : p = primCompare := (Option.some.inj hp).symm
  subst e
  exact compare_contract (fun a b w => Tryz.strings_Compare a b w) ds r h
theorem prims_ok {gl : Glob} : Prims Tryz.prog gl tabL := .no rfl (.no rfl (.no rfl (.no rfl (.no rfl (.no rfl (.no rfl (.no rfl (.no rfl (.no rfl (.no rfl (.no rfl (.no rfl (.no rfl (.no rfl (.no rfl (.no rfl (.no rfl (.no rfl (.no rfl (.no rfl (.no rfl (.no rfl (.no rfl (.no rfl (.no rfl (.no rfl (.no rfl (.no rfl (.no rfl (.no rfl (.no rfl (.no rfl (.no rfl (.no rfl (.no rfl (.no rfl (.no rfl (.no rfl (.no rfl (.no rfl (.no rfl (.no rfl (.no rfl (.no rfl (.no rfl (.no rfl (.no rfl (.no rfl (.no rfl (.no rfl (.no rfl (.no rfl (.no rfl (.no rfl (.no rfl (.no rfl (.no rfl (.no rfl (.no rfl (.no rfl (.no rfl (.no rfl (.no rfl (.no rfl (.no rfl (.no rfl (.no rfl (.no rfl (.no rfl (.no rfl (.no rfl (.no rfl (.no rfl (.no rfl (.no rfl (.no rfl (.no rfl (.no rfl (.no rfl (.no rfl (.no rfl (.no rfl (.no rfl (.no rfl (.no rfl (.no rfl (.no rfl (.no rfl (.no rfl (.no rfl (.no rfl (.no rfl (.no rfl (.no rfl (.no rfl (.no rfl (.no rfl (.no rfl (.no rfl (.no rfl (.no rfl (.no rfl (.no rfl (.no rfl (.no rfl (.no rfl (.no rfl (.no rfl (.no rfl (.no rfl (.no rfl (.no rfl (.no rfl (.no rfl (.no rfl (.no rfl (.no rfl (.no rfl (.no rfl (.no rfl (.no rfl (.no rfl (.cons (prim_strings_IndexByte) (.no rfl (.no rfl (.no rfl (.no rfl (.no rfl (.no rfl (.no rfl (.no rfl (.no rfl (.no rfl (.no rfl (.cons (prim_strings_Contains) (.no rfl (.no rfl (.no rfl (.no rfl (.no rfl (.no rfl (.no rfl (.no rfl (.no rfl (.no rfl (.no rfl (.no rfl (.cons (prim_strconv_Atoi) (.no rfl (.no rfl (.no rfl (.no rfl (.cons (prim_strings_Compare) (.no rfl (.no rfl (.no rfl (.no rfl (.no rfl (.no rfl (.no rfl (.no rfl (.no rfl (.no rfl (.no rfl (.no rfl (.no rfl (.no rfl (.no rfl (.no rfl (.no rfl (.no rfl (.no rfl (.no rfl (.no rfl (.no rfl (.no rfl (.no rfl (.no rfl (.no rfl (.no rfl (.no rfl (.no rfl (.no rfl (.no rfl (.no rfl (.no rfl (.no rfl (.no rfl (.no rfl (.no rfl (.no rfl (.no rfl (.no rfl (.no rfl (.no rfl (.no rfl (.no rfl (.no rfl (.no rfl (.no rfl (.no rfl (.no rfl (.no rfl (.no rfl (.no rfl (.no rfl (.no rfl (.no rfl (Prims.nil)))))))))))))))))))))))))))))))))))))))))))))))))))))))))))))))))))))))))))))))))))))))))))))))))))))))))))))))))))))))))))))))))))))))))))))))))))))))))))))))))))))))))))))))))))))))))))))))))))))))))))))))))
theorem tab_ok {gl : Glob} : TabOk Tryz.prog gl T tab :=
  tabOk_of mix tys_ok en_FnExactLeader_ok ents_ok (fun x hx => by
    rcases List.mem_cons.1 hx with rfl | hx
    · exact (prims_ok).ok _ (List.mem_cons_self ..)
    · exact (prims_ok).ok x hx)
def lawS : List (TypeId × List CT) := [(33, [c_s, c_s, c_iis, c_iis, (.int .i64), c_q0, c_q1, (.int .i64), .str, c_i, c_i, c_iis]), (25, [c_s, c_s, c_iis, c_iis]), (22, [c_s]), (9, [.str]), (23, [c_iis]), (144, [(.int .i64), (.int .i64), .str]), (3, [(.int .i64)]), (26, [c_q0]), (109, [(.int .i64), (.int .i64), (.int .i64), (.int .i64), (.int .i64), c_iiis, c_iis, c_isiis, (.int .i64), (.int .i64), c_i, .str, (.int .i64), c_b, c_i, c_i, (.int .i64), c_iis, c_isiis, (.int .i64), (.int .i64), c_i, .str, c_u, (.int .i64), c_q1]), (106, [(.int .i64), (.int .i64), (.int .i64), (.int .i64), c_iiis, c_iis, c_isiis, (.int .i64), (.int .i64), c_i, .str]), (98, [(.int .i64), (.int .i64), c_iiis]), (96, [c_iiis]), (182, [(.int .i64), (.int .i64), (.int .i64), .str]), (115, [(.int .i64), (.int .i64), .str]), (104, [c_iis, c_isiis, (.int .i64), (.int .i64), c_i, .str]), (102, [c_iis, c_isiis, (.int .i64), (.int .i64)]), (99, [c_iis]), (243, [(.int .i64), (.int .i64), .str]), (100, [c_isiis]), (246, [(.int .i64), .str, (.int .i64), (.int .i64), .str]), (30, [c_i]), (71, [c_b]), (4, [.bool]), (107, [c_u, (.int .i64)]), (72, [c_u]), (5, [(.int .u8)]), (27, [c_q1]), (112, [(.int .i64), (.int .i64), (.int .i64), (.int .i64), (.int .i64), (.int .i64), (.int .i64), c_iiis, .bool, .str]), (29, [(.int .i64), .str]), (31, [c_iis])]
theorem lawS_ok : fitsB lawS Tryz.prog lawS = true := by kernel_rfl
def pars : List Par := [⟨33, true, [c_s, c_s, c_iis, c_iis, (.int .i64), c_q0, c_q1, (.int .i64), .str, c_i, c_i, c_iis]⟩, ⟨3, false, [(.int .i64)]⟩]
theorem pars_ok : (pars.all fun p => fitMem lawS p.t p.cts) = true := by kernel_rfl
theorem law_run (ds : List DV) (ht : Typed (pars.flatMap (·.cts)) ds) (ho : okDs ds) : ∃ n, D T tab cands n i_FnExactEven ds = some (true : Bool) := by
  obtain ⟨x0, r0, rfl, ht⟩ := ht
  obtain ⟨x1, r1, rfl, ht⟩ := ht
  obtain ⟨x2, r2, rfl, ht⟩ := ht
  obtain ⟨x3, r3, rfl, ht⟩ := ht
  obtain ⟨x4, r4, rfl, ht⟩ := ht
  obtain ⟨x5, r5, rfl, ht⟩ := ht
  obtain ⟨x6, r6, rfl, ht⟩ := ht
  obtain ⟨x7, r7, rfl, ht⟩ := ht
  obtain ⟨x8, r8, rfl, ht⟩ := ht
  obtain ⟨x9, r9, rfl, ht⟩ := ht
  obtain ⟨x10, r10, rfl, ht⟩ := ht
  obtain ⟨x11, r11, rfl, ht⟩ := ht
  obtain ⟨x12, r12, rfl, ht⟩ := ht
  have ht : r12 = [] := ht
  subst ht
  obtain ⟨o0, o1, o2, o3, o4, o5, o6, o7, o8, o9, o10, o11, o12, _⟩ := ho
  exact (sp_FnExactEven x0 x1 x2 x3 x4 x5 x6 x7 x8 x9 x10 x11 x12 o0 o1 o2 o3 o4 o5 o6 o7 o8 o9 o10 o11 o12).val
def laidL : List (String × DataW Unit) := [("math/bits.deBruijn32tab", Rows.laid_math_bits_deBruijn32tab), ("math/bits.deBruijn64tab", Rows.laid_math_bits_deBruijn64tab), ("internal/strconv.uint64pow10", Rows.laid_internal_strconv_uint64pow10), ("unicode/utf8.acceptRanges", Rows.laid_unicode_utf8_acceptRanges), ("strconv.ErrRange", Rows.laid_strconv_ErrRange), ("strconv.ErrSyntax", Rows.laid_strconv_ErrSyntax), ("unicode/utf8.first", Rows.laid_unicode_utf8_first)]
theorem law_calls {A : Type} {en : TypeId × Value → A} {sp : Nat → Bool} {held : Bool} {args : Array Value} {d : List (DataW A)} {ps : List MemPlace} (W : World) (hs : shAll pars args.toList) (hz : args.size = 2) (h : DataW.TrodAll en Tryz.prog W 0 sp held (pars.map (·.t)) args.toList d ps) :
    Calls Tryz.prog 5 args W fun e W' => e = .returned (.bool true) ∧ Below W.heap.size W W' := by
  obtain ⟨ds, h1, h2, h3⟩ := laws_in lawS_ok pars_ok hs h
  obtain ⟨n, hn⟩ := law_run ds h1 (okDs_of ds h2)
  exact laws_true (E := tab i_FnExactEven) (D_sound (tab_ok) n i_FnExactEven ds _ hn) rfl rfl rfl hz (h3 (tab i_FnExactEven) ⟨W.heap.size, W⟩ rfl rfl (Nat.le_refl _) (fun _ _ => rfl))
set_option maxRecDepth 100000 in
theorem lifted (os : Os) (started : os.Started) (A : Type) (enc : TypeId × Value → A) :
    ReturnsInHanded {} Tryz.checked os 5 .any (fun w args => (Rows.fnExactEvenSpec.pre enc Tryz.prog Tryz.f5 [] false w args ∧ laidMetH Tryz.prog laidL w) ∧ sizedMet enc Tryz.prog Tryz.f5 (OpenSpec.ofChange Rows.fnExactEvenSpec) false w args)
      (Rows.fnExactEvenSpec.post enc Tryz.prog Tryz.f5 false true false false) := by
  refine returnsInHanded_of_change_and (C := Tryz.checked) (X := fun w _ => laidMetH Tryz.prog laidL w) (fun _ _ _ hh h => h.of_heap hh) own started (by kernel_rfl) Tryz.func5
    (ChangeSpec.witness_shaped (enc := enc) (C := Tryz.checked) (os := os) (X := fun w _ => laidMetH Tryz.prog laidL w) false (World.laidAll Tryz.prog os laidL) #[.agg #[.slice none 0 0, .slice none 0 0, .slice none 0 0, .slice none 0 0, .int .i64 0, .slice none 0 0, .slice none 0 0, .int .i64 0, .string ⟨#[]⟩, .slice none 0 0, .slice none 0 0, .slice none 0 0], .int .i64 0] 16 (World.laidAll_os _ _ _)
      (World.shaped_of_ZipB (by kernel_rfl) (by kernel_rfl)) (by kernel_rfl) (by kernel_rfl) (by kernel_rfl)
      (by rw [MakeChecks.laidMetH_plain _ _ _ (by kernel_rfl)]; exact laidMet_laidAll _ (by kernel_rfl) (by kernel_rfl))) ?_
  intro W base args ds gs before hval0 hW _ _ hL _
  rw [MakeChecks.laidMetH_plain _ _ _ (by kernel_rfl)] at hL
  have hval : ∀ (j : Nat) t v, Tryz.f5.params[j]? = some t → args[j]? = some v → Value.okWide Tryz.prog W .any base t v := hval0
  have hW' := hW
  obtain ⟨p, q, hA0, hV, rfl, _, _⟩ := hW
  have hA : DataW.TrodAll enc Tryz.prog W 0 (fun _ => true) true Tryz.f5.params.toList args.toList ds p := hA0
  rw [Tryz.params5] at hA hval
  have hA' := hA
  obtain ⟨v0, v1, d0, d1, p0, p1, rfl, rfl, rfl, h0, h1⟩ := trodAll_two hA
  obtain ⟨rfl, rfl⟩ := trodVars_none hV
  obtain ⟨arr0, e0, _⟩ := okWide_struct (show Tryz.prog.underlying 33 = some (.struct (Tryz.prog.fieldsOf 33)) by kernel_rfl) (hval 0 33 v0 rfl rfl)
  obtain ⟨x1, e1⟩ := okWide_int (show Tryz.prog.underlying 3 = some (.int .i64) by kernel_rfl) (hval 1 3 v1 rfl rfl)
  simp only [List.append_nil] at hW'
  refine (law_calls W (show shAll pars [v0, v1] from ⟨⟨_, e0⟩, (show v1.cells = #[v1] by rw [e1]; rfl), trivial⟩) rfl hA').mono fun e W' ⟨he, hb⟩ => ?_
  subst he
  obtain ⟨fuel0, hf0⟩ := (show DataW.Trod enc Tryz.prog W 0 (fun _ => true) true 33 v0 d0 p0 from h0)
  obtain ⟨fuel1, hf1⟩ := (show DataW.Trod enc Tryz.prog W 0 (fun _ => true) true 3 v1 d1 p1 from h1)
  exact ⟨_, rfl, _, _, _, [], _, [], hW', trodAll_mk1 (shut_bool (show Tryz.prog.underlying 4 = some .bool by kernel_rfl) _), trodAll_mk2 (Below.trod laidOut (by kernel_rfl) (of_decide_eq_true (by kernel_rfl)) h0 hb (DataW.trod_lt _ _ _ _ hf0)) (Below.trod laidOut (by kernel_rfl) (of_decide_eq_true (by kernel_rfl)) h1 hb (DataW.trod_lt _ _ _ _ hf1)), rfl, hb.frame _, fun h => by cases h⟩
theorem holds : Rows.FnExactEvenSaid :=
  OpenClaim.holds_of_wide 5 Tryz.f5 rfl rfl rfl rfl rfl rfl rfl ⟨rfl, rfl, rfl, rfl, rfl⟩ rfl rfl rfl rfl rfl (by kernel_rfl) Tryz.func5 closed
    (of_decide_eq_true (by kernel_rfl)) (by unfold Func.isWrapper; first | (rw [if_pos (by decide +kernel)]; kernel_rfl) | (rw [if_neg (by decide +kernel)]; exact ⟨rfl, rfl⟩))
    (fun os started H enc _ => lifted os started H enc)
theorem fnExactEven_card : Rows.FnExactEvenCardSaid :=
  Claim7.holds_tied_plain_at .later [] [.data, .data, .data, .data, .sentinel, .sentinel, .pinned] true (true, "ad75bc6fde4f9af34b7a7805adcf8fed1bccfc261fd2f8a2c9f40b8f8d41bc74") true holds (fun _ h => by cases h) (by kernel_rfl) (fun _ h => by cases h) fnExactEven_row_tie rfl ⟨rfl, rfl⟩ (by kernel_rfl) rfl
    (fun f fn hf hfn => by
      obtain rfl : f = 5 := Option.some.inj ((show Tryz.prog.funcNamed "loop.example/g00289/laws.FnExactEven" = some 5 by kernel_rfl).symm.trans hf) |>.symm
      obtain rfl : fn = Tryz.f5 := (Option.some.inj (Tryz.func5.symm.trans hfn)).symm
      exact ⟨by kernel_rfl, fun j t ht => by
        rw [Tryz.params5] at ht
        have hm : t ∈ [33, 3] := by simpa using Array.mem_of_getElem? ht
        have hall : ([33, 3].all fun u => !Tryz.prog.wantsStandIn u) = true := by kernel_rfl
        exact (show Tryz.prog.wantsStandIn t = false by simpa using List.all_eq_true.1 hall t hm)⟩)
    (by kernel_rfl)
#print axioms fnExactEven_card
end Go.Proofs.YtmabfdnconccnaaGreatDoor
