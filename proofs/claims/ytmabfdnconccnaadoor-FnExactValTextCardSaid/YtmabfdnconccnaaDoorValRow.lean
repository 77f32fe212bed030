/- FnExactValText: for every input the law answers true, and its argument reads as before; the listed tables are tied to the program's text. -/
import Derived.Test.YtmabfdnconccnaaDoorValLaw
import Derived.Test.YtmabfdnconccnaaDoorEv3
import Derived.Test.YtmabfdnconccnaaDoorRows
import Derived.Test.YtmabfdnconccnaaDoorCards
import Derived.Test.YtmabfdnconccnaaDoorTie
import Derived.Shelf.Strconv.Itoa3
import Derived.ProofKit
import Derived.Lay
import Derived.MakeChecks
import Derived.SevenTiedAt
import Derived.LaidLaws
import Derived.Handed
import Derived.Carry
namespace Go.Proofs.YtmabfdnconccnaaDoor
open Go Go.Ev Go.Shelf Go.ChangeShapes Go.WideShapes Go.ChangeAt Go.RowKit
def Tryd.laysItoa_ren : Go.Shelf.Ren := ⟨fun | 171 => 52 | 243 => 68 | 246 => 80 | 283 => 89 | 284 => 90 | 285 => 91 | 286 => 92 | 129 => 97 | 317 => 96 | 318 => 98 | 319 => 99 | 320 => 100 | 337 => 104 | 338 => 105 | n => n, fun | 3 => 3 | 9 => 9 | 2 => 2 | 4 => 4 | 171 => 152 | 0 => 0 | 53 => 153 | 37 => 52 | 5 => 5 | 173 => 156 | 212 => 163 | 51 => 164 | 20 => 20 | 213 => 165 | 46 => 166 | 232 => 173 | 233 => 174 | n => n, fun | 17 => 0 | 18 => 1 | 19 => 2 | n => n⟩
theorem Tryd.laysItoa : Go.Proofs.LaysM.n171 Tryd.prog Tryd.laysItoa_ren where
  mixed := by kernel_rfl
  f129 := Tryd.func97.trans (congrArg some (by kernel_rfl))
  f171 := Tryd.func52.trans (congrArg some (by kernel_rfl))
  f243 := Tryd.func68.trans (congrArg some (by kernel_rfl))
  f246 := Tryd.func80.trans (congrArg some (by kernel_rfl))
  f283 := Tryd.func89.trans (congrArg some (by kernel_rfl))
  f284 := Tryd.func90.trans (congrArg some (by kernel_rfl))
  f285 := Tryd.func91.trans (congrArg some (by kernel_rfl))
  f286 := Tryd.func92.trans (congrArg some (by kernel_rfl))
  f317 := Tryd.func96.trans (congrArg some (by kernel_rfl))
  f318 := Tryd.func98.trans (congrArg some (by kernel_rfl))
  f319 := Tryd.func99.trans (congrArg some (by kernel_rfl))
  f320 := Tryd.func100.trans (congrArg some (by kernel_rfl))
  f337 := Tryd.func104.trans (congrArg some (by kernel_rfl))
  f338 := Tryd.func105.trans (congrArg some (by kernel_rfl))
  t0 := Tryd.underlying0
  a0 := Tryd.isAgg0
  z0 := Tryd.sizeOf0
  v0 := Tryd.zeroValue0
  t2 := Tryd.underlying2
  a2 := Tryd.isAgg2
  z2 := Tryd.sizeOf2
  v2 := Tryd.zeroValue2
  t3 := Tryd.underlying3
  a3 := Tryd.isAgg3
  z3 := Tryd.sizeOf3
  v3 := Tryd.zeroValue3
  t4 := Tryd.underlying4
  a4 := Tryd.isAgg4
  z4 := Tryd.sizeOf4
  v4 := Tryd.zeroValue4
  t5 := Tryd.underlying5
  a5 := Tryd.isAgg5
  z5 := Tryd.sizeOf5
  v5 := Tryd.zeroValue5
  t9 := Tryd.underlying9
  a9 := Tryd.isAgg9
  z9 := Tryd.sizeOf9
  v9 := Tryd.zeroValue9
  t20 := Tryd.underlying20
  a20 := Tryd.isAgg20
  z20 := Tryd.sizeOf20
  v20 := Tryd.zeroValue20
  t37 := Tryd.underlying52
  a37 := Tryd.isAgg52
  z37 := Tryd.sizeOf52
  v37 := Tryd.zeroValue52
  t46 := Tryd.underlying166
  a46 := Tryd.isAgg166
  z46 := Tryd.sizeOf166
  v46 := Tryd.zeroValue166
  t51 := Tryd.underlying164
  a51 := Tryd.isAgg164
  z51 := Tryd.sizeOf164
  v51 := Tryd.zeroValue164
  t53 := Tryd.underlying153
  a53 := Tryd.isAgg153
  z53 := Tryd.sizeOf153
  v53 := Tryd.zeroValue153
  t171 := Tryd.underlying152
  a171 := Tryd.isAgg152
  z171 := Tryd.sizeOf152
  v171 := Tryd.zeroValue152
  t173 := Tryd.underlying156
  a173 := Tryd.isAgg156
  z173 := Tryd.sizeOf156
  v173 := Tryd.zeroValue156
  t212 := Tryd.underlying163
  a212 := Tryd.isAgg163
  z212 := Tryd.sizeOf163
  v212 := Tryd.zeroValue163
  t213 := Tryd.underlying165
  a213 := Tryd.isAgg165
  z213 := Tryd.sizeOf165
  t232 := Tryd.underlying173
  a232 := Tryd.isAgg173
  z232 := Tryd.sizeOf173
  v232 := Tryd.zeroValue173
  t233 := Tryd.underlying174
  a233 := Tryd.isAgg174
  z233 := Tryd.sizeOf174
  v233 := Tryd.zeroValue174
  g17 := by kernel_rfl
  g18 := by kernel_rfl
  g19 := by kernel_rfl
  i0 := by kernel_rfl
  i2 := by kernel_rfl
  i3 := by kernel_rfl
  i4 := by kernel_rfl
  i5 := by kernel_rfl
  i9 := by kernel_rfl
  i20 := by kernel_rfl
  i37 := by kernel_rfl
  i46 := by kernel_rfl
  i51 := by kernel_rfl
  i53 := by kernel_rfl
  i171 := by kernel_rfl
  i173 := by kernel_rfl
  i212 := by kernel_rfl
  i232 := by kernel_rfl
  i233 := by kernel_rfl
  m17 := by kernel_rfl
  m18 := by kernel_rfl
  m19 := by kernel_rfl
theorem mix : Tryd.prog.follows .mixedOrders = true := by kernel_rfl
theorem own : ownKnob Tryd.prog.godebug = none := by kernel_rfl
theorem laidOut : laidOutB Tryd.prog = true := by kernel_rfl
theorem prim_itoa {gl : Glob} (ht : gl.has Tryd.prog "internal/strconv.uint64pow10" .u64 Lib.pow10Tab) : ∀ p, en_strconv_Itoa.prim = some p → ∀ ds r, p ds = some r → Contract Tryd.prog gl en_strconv_Itoa ds r := by
  intro p hp ds r h
  have e : p = primItoa := (Option.some.inj hp).symm
  subst e
  exact itoa_contract ht (fun n h0 h1 w htab => Any.strconv_Itoa Tryd.laysItoa n h0 h1 w htab) ds r h
theorem prims_ok {gl : Glob} (ht : gl.has Tryd.prog "internal/strconv.uint64pow10" .u64 Lib.pow10Tab) : Prims Tryd.prog gl tabL := .no rfl (.no rfl (.no rfl (.no rfl (.no rfl (.no rfl (.no rfl (.no rfl (.no rfl (.no rfl (.no rfl (.no rfl (.no rfl (.no rfl (.no rfl (.cons (prim_itoa ht) (.no rfl (.no rfl (Prims.nil))))))))))))))))))
theorem tab_ok {gl : Glob} (ht : gl.has Tryd.prog "internal/strconv.uint64pow10" .u64 Lib.pow10Tab) : TabOk Tryd.prog gl T tab :=
  tabOk_of mix tys_ok en_FnExactValText_ok ents_ok (fun x hx => by
    rcases List.mem_cons.1 hx with rfl | hx
    · exact (prims_ok ht).ok _ (List.mem_cons_self ..)
    · exact (prims_ok ht).ok x hx)
def lawS : List (TypeId × List CT) := [(34, [(.int .i64), (.int .i64), .str]), (3, [(.int .i64)]), (9, [.str])]
theorem lawS_ok : fitsB lawS Tryd.prog lawS = true := by kernel_rfl
def lawC : List CT := [(.int .i64), (.int .i64), .str]
theorem lawC_mem : fitMem lawS 34 lawC = true := by kernel_rfl
theorem law_run (ds : List DV) (ht : Typed lawC ds) (ho : okDs ds) : ∃ n, D T tab cands n i_FnExactValText ds = some (true : Bool) := by
  obtain ⟨x0, r0, rfl, ht⟩ := ht
  obtain ⟨x1, r1, rfl, ht⟩ := ht
  obtain ⟨x2, r2, rfl, ht⟩ := ht
  have ht : r2 = [] := ht
  subst ht
  obtain ⟨o0, o1, o2, _⟩ := ho
  exact (sp_FnExactValText x0 x1 x2 o0 o1 o2).val
def laidL : List (String × DataW Unit) := [("math/bits.deBruijn32tab", Rows.laid_math_bits_deBruijn32tab), ("math/bits.deBruijn64tab", Rows.laid_math_bits_deBruijn64tab), ("internal/strconv.uint64pow10", Rows.laid_internal_strconv_uint64pow10), ("unicode/utf8.acceptRanges", Rows.laid_unicode_utf8_acceptRanges), ("unicode/utf8.first", Rows.laid_unicode_utf8_first)]
theorem tab_has {w : World} (h : laidMet Tryd.prog laidL w) : (Glob.mk w.heap.size w).has Tryd.prog "internal/strconv.uint64pow10" .u64 Lib.pow10Tab :=
  has_of h (List.mem_iff_getElem?.2 ⟨2, by kernel_rfl⟩) (show Tryd.prog.globalNamed "internal/strconv.uint64pow10" = some 0 by kernel_rfl) (show (Tryd.prog.globals[0]?).map (·.type) = some 163 by kernel_rfl) (show Tryd.prog.underlying 163 = some (.array 20 153) by kernel_rfl) (show Tryd.prog.underlying 153 = some (.int .u64) by kernel_rfl) (by kernel_rfl) (by kernel_rfl)
theorem law_calls {A : Type} {en : TypeId × Value → A} {sp : Nat → Bool} {held : Bool} {arr : Array Value} {d : DataW A} {ps : List MemPlace} (W : World) (hL : laidMet Tryd.prog laidL W) (h : DataW.Trod en Tryd.prog W 0 sp held 34 (.agg arr) d ps) :
    Calls Tryd.prog 4 #[.agg arr] W fun e W' => e = .returned (.bool true) ∧ Below W.heap.size W W' := by
  obtain ⟨ds, h1, h2, h3⟩ := law_in lawS_ok lawC_mem h
  obtain ⟨n, hn⟩ := law_run ds h1 (okDs_of ds h2)
  exact law_true (E := tab i_FnExactValText) (D_sound (tab_ok (tab_has hL)) n i_FnExactValText ds _ hn) rfl rfl rfl rfl rfl (h3 (tab i_FnExactValText) ⟨W.heap.size, W⟩ rfl rfl (Nat.le_refl _) (fun _ _ => rfl))
set_option maxRecDepth 100000 in
theorem lifted (os : Os) (started : os.Started) (A : Type) (enc : TypeId × Value → A) :
    ReturnsInHanded {} Tryd.checked os 4 .any (fun w args => (Rows.fnExactValTextSpec.pre enc Tryd.prog Tryd.f4 [] false w args ∧ laidMetH Tryd.prog laidL w) ∧ sizedMet enc Tryd.prog Tryd.f4 (OpenSpec.ofChange Rows.fnExactValTextSpec) false w args)
      (Rows.fnExactValTextSpec.post enc Tryd.prog Tryd.f4 false true false false) := by
  refine returnsInHanded_of_change_and (C := Tryd.checked) (X := fun w _ => laidMetH Tryd.prog laidL w) (fun _ _ _ hh h => h.of_heap hh) own started (by kernel_rfl) Tryd.func4
    (ChangeSpec.witness_shaped (enc := enc) (C := Tryd.checked) (os := os) (X := fun w _ => laidMetH Tryd.prog laidL w) false (World.laidAll Tryd.prog os laidL) #[.agg #[.int .i64 0, .int .i64 0, .string ⟨#[]⟩]] 16 (World.laidAll_os _ _ _)
      (World.shaped_of_ZipB (by kernel_rfl) (by kernel_rfl)) (by kernel_rfl) (by kernel_rfl) (by kernel_rfl)
      (by rw [MakeChecks.laidMetH_plain _ _ _ (by kernel_rfl)]; exact laidMet_laidAll _ (by kernel_rfl) (by kernel_rfl))) ?_
  intro W base args ds gs before hval0 hW _ _ hL _
  rw [MakeChecks.laidMetH_plain _ _ _ (by kernel_rfl)] at hL
  have hval : ∀ (j : Nat) t v, Tryd.f4.params[j]? = some t → args[j]? = some v → Value.okWide Tryd.prog W .any base t v := hval0
  have hW' := hW
  obtain ⟨p, q, hA0, hV, rfl, _, _⟩ := hW
  have hA : DataW.TrodAll enc Tryd.prog W 0 (fun _ => true) true Tryd.f4.params.toList args.toList ds p := hA0
  rw [Tryd.params4] at hA hval
  obtain ⟨v0, d0, rfl, rfl, h0⟩ := trodAll_one hA
  obtain ⟨rfl, rfl⟩ := trodVars_none hV
  obtain ⟨arr, rfl, _⟩ := okWide_struct (show Tryd.prog.underlying 34 = some (.struct (Tryd.prog.fieldsOf 34)) by kernel_rfl) (hval 0 34 v0 rfl rfl)
  simp only [List.append_nil] at hW'
  refine (law_calls W hL h0).mono fun e W' ⟨he, hb⟩ => ?_
  subst he
  have h0' := h0
  obtain ⟨fuel, hf⟩ := h0'
  exact ⟨_, rfl, _, _, _, [], p, [], hW', trodAll_mk1 (shut_bool (show Tryd.prog.underlying 4 = some .bool by kernel_rfl) _), trodAll_mk1 (Below.trod laidOut (by kernel_rfl) (of_decide_eq_true (by kernel_rfl)) h0 hb (DataW.trod_lt _ _ _ _ hf)), rfl, hb.frame _, fun h => by cases h⟩
theorem holds : Rows.FnExactValTextSaid :=
  OpenClaim.holds_of_wide 4 Tryd.f4 rfl rfl rfl rfl rfl rfl rfl ⟨rfl, rfl, rfl, rfl, rfl⟩ rfl rfl rfl rfl rfl (by kernel_rfl) Tryd.func4 (by kernel_rfl)
    (of_decide_eq_true (by kernel_rfl)) (by unfold Func.isWrapper; first | (rw [if_pos (by decide +kernel)]; kernel_rfl) | (rw [if_neg (by decide +kernel)]; exact ⟨rfl, rfl⟩))
    (fun os started H enc _ => lifted os started H enc)
theorem fnExactValText_card : Rows.FnExactValTextCardSaid :=
  Claim7.holds_tied_plain_at .later [] [.data, .data, .data, .data, .pinned] true (true, "5e6e4bc0f3c26aa055ba96b0a5bedb36b122c8e492631f63b987663d6c745696") false holds (fun _ h => by cases h) (by kernel_rfl) (fun _ h => by cases h) fnExactValText_row_tie rfl ⟨rfl, rfl⟩ (by kernel_rfl) rfl
    (fun f fn hf hfn => by
      obtain rfl : f = 4 := Option.some.inj ((show Tryd.prog.funcNamed "loop.example/g00289/laws.FnExactValText" = some 4 by kernel_rfl).symm.trans hf) |>.symm
      obtain rfl : fn = Tryd.f4 := (Option.some.inj (Tryd.func4.symm.trans hfn)).symm
      exact ⟨by kernel_rfl, fun j t ht => by
        rw [Tryd.params4] at ht
        have hm : t ∈ [34] := by simpa using Array.mem_of_getElem? ht
        have hall : ([34].all fun u => !Tryd.prog.wantsStandIn u) = true := by kernel_rfl
        exact (show Tryd.prog.wantsStandIn t = false by simpa using List.all_eq_true.1 hall t hm)⟩)
    (by kernel_rfl)
#print axioms fnExactValText_card
end Go.Proofs.YtmabfdnconccnaaDoor
