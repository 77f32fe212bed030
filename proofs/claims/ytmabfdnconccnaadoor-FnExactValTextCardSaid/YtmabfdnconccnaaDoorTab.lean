/- Entries of the functions, and the closed facts about them. -/
import Derived.Test.YtmabfdnconccnaaDoorEv3
import Derived.Test.YtmabfdnconccnaaDoorProg
import Derived.KernelRfl
namespace Go.Proofs.YtmabfdnconccnaaDoor
open Go Go.Ev
@[reducible] def c_u : CT := (.sl (.one (.int .u8)))
abbrev t_u : Type := List UInt8
def tys : List (TypeId × TyI) := [
  (3, ⟨.int .i64, 1, 8, [.i .i64 0], some (.one (.int .i64)), false⟩),
  (5, ⟨.int .u8, 1, 1, [.i .u8 0], some (.one (.int .u8)), false⟩),
  (9, ⟨.str, 1, 16, [.s []], some (.one .str), false⟩),
  (34, ⟨.struct [(0, 3), (1, 3), (2, 9)], 3, 32, [.i .i64 0, .i .i64 0, .s []], some (.cons (.int .i64) (.cons (.int .i64) (.one .str))), false⟩),
  (37, ⟨.struct [(0, 3), (1, 3), (2, 9)], 3, 32, [.i .i64 0, .i .i64 0, .s []], some (.cons (.int .i64) (.cons (.int .i64) (.one .str))), false⟩),
  (52, ⟨.slice 5, 1, 24, [.nl], some (.one c_u), false⟩)]
def T (t : TypeId) : Option TyI := lookT t tys
def lp_sDecText_0 : Gam × Gam × List CT := (⟨[(6, .one .str), (0, .one (.int .i64)), (4, .one .str)], []⟩, ⟨[(0, .one (.int .i64)), (6, .one .str), (4, .one .str)], []⟩, [(.int .i64), .str, .str])
def lp_sl2Digits_0 : Gam × Gam × List CT := (⟨[(0, .one (.int .i64)), (3, .one .str)], []⟩, ⟨[(3, .one .str)], []⟩, [.str])
def lp_strings_trimRightByte_0 : Gam × Gam × List CT := (⟨[(0, .one .str), (1, .one (.int .u8))], []⟩, ⟨[(0, .one .str)], []⟩, [.str])
/-- 0: loop.example/g00289/laws.FnExactValText -/
noncomputable def en_FnExactValText : Entry := { f := 4, fn := Tryd.f4, ins := [.agg [(.int .i64), (.int .i64), .str]], bx := [], outs := .one .bool, bxo := [], loops := [], noJoin := [], outC := [.bool], prim := none }
/-- 1: loop.example/g00289/laws.szVal -/
noncomputable def en_szVal : Entry := { f := 11, fn := Tryd.f11, ins := [.agg [(.int .i64), (.int .i64), .str], .one (.int .i64)], bx := [], outs := .one (.int .i64), bxo := [], loops := [], noJoin := [], outC := [(.int .i64)], prim := none }
/-- 2: loop.example/g00289/laws.toVal -/
noncomputable def en_toVal : Entry := { f := 13, fn := Tryd.f13, ins := [.agg [(.int .i64), (.int .i64), .str]], bx := [], outs := .agg [(.int .i64), (.int .i64), .str], bxo := [], loops := [], noJoin := [], outC := [(.int .i64), (.int .i64), .str], prim := none }
/-- 3: loop.example/g00289/spec.ValText -/
noncomputable def en_sValText : Entry := { f := 12, fn := Tryd.f12, ins := [.agg [(.int .i64), (.int .i64), .str]], bx := [], outs := .one .str, bxo := [], loops := [], noJoin := [], outC := [.str], prim := none }
/-- 4: loop.example/g00289/spec.ToText -/
noncomputable def en_sToText : Entry := { f := 27, fn := Tryd.f27, ins := [.agg [(.int .i64), (.int .i64), .str]], bx := [], outs := .one .str, bxo := [], loops := [], noJoin := [], outC := [.str], prim := none }
/-- 5: loop.example/g00289/spec.DecText -/
noncomputable def en_sDecText : Entry := { f := 54, fn := Tryd.f54, ins := [.one (.int .i64)], bx := [], outs := .one .str, bxo := [], loops := [(0, lp_sDecText_0)], noJoin := [], outC := [.str], prim := none }
/-- 6: loop.example/g00289/spec.DecOk -/
noncomputable def en_sDecOk : Entry := { f := 70, fn := Tryd.f70, ins := [.one (.int .i64)], bx := [], outs := .one .bool, bxo := [], loops := [], noJoin := [], outC := [.bool], prim := none }
/-- 7: loop.example/g00289/spec.l1In -/
noncomputable def en_sl1In : Entry := { f := 21, fn := Tryd.f21, ins := [.one (.int .i64), .one (.int .i64), .one (.int .i64)], bx := [], outs := .one .bool, bxo := [], loops := [], noJoin := [], outC := [.bool], prim := none }
/-- 8: loop.example/g00289/spec.l1Abs -/
noncomputable def en_sl1Abs : Entry := { f := 71, fn := Tryd.f71, ins := [.one (.int .i64)], bx := [], outs := .one (.int .i64), bxo := [], loops := [], noJoin := [], outC := [(.int .i64)], prim := none }
/-- 9: loop.example/g00289/spec.l2Digits -/
noncomputable def en_sl2Digits : Entry := { f := 66, fn := Tryd.f66, ins := [.one (.int .i64)], bx := [], outs := .one .str, bxo := [], loops := [(0, lp_sl2Digits_0)], noJoin := [], outC := [.str], prim := none }
/-- 10: loop.example/g00289/impl.ValText -/
noncomputable def en_iValText : Entry := { f := 14, fn := Tryd.f14, ins := [.agg [(.int .i64), (.int .i64), .str]], bx := [], outs := .one .str, bxo := [], loops := [], noJoin := [], outC := [.str], prim := none }
/-- 11: loop.example/g00289/impl.ToText -/
noncomputable def en_iToText : Entry := { f := 28, fn := Tryd.f28, ins := [.agg [(.int .i64), (.int .i64), .str]], bx := [], outs := .one .str, bxo := [], loops := [], noJoin := [], outC := [.str], prim := none }
/-- 12: loop.example/g00289/impl.DecText -/
noncomputable def en_iDecText : Entry := { f := 55, fn := Tryd.f55, ins := [.one (.int .i64)], bx := [], outs := .one .str, bxo := [], loops := [], noJoin := [], outC := [.str], prim := none }
/-- 13: loop.example/g00289/impl.DecOk -/
noncomputable def en_iDecOk : Entry := { f := 72, fn := Tryd.f72, ins := [.one (.int .i64)], bx := [], outs := .one .bool, bxo := [], loops := [], noJoin := [], outC := [.bool], prim := none }
/-- 14: loop.example/g00289/impl.in -/
noncomputable def en_iin : Entry := { f := 24, fn := Tryd.f24, ins := [.one (.int .i64), .one (.int .i64), .one (.int .i64)], bx := [], outs := .one .bool, bxo := [], loops := [], noJoin := [], outC := [.bool], prim := none }
/-- 15: strconv.Itoa -/
noncomputable def en_strconv_Itoa : Entry := { f := 52, fn := Tryd.f52, ins := [.one (.int .i64)], bx := [], outs := .one .str, bxo := [], loops := [], noJoin := [], outC := [.str], prim := some primItoa }
/-- 16: strings.TrimRight -/
noncomputable def en_strings_TrimRight : Entry := { f := 73, fn := Tryd.f73, ins := [.one .str, .one .str], bx := [], outs := .one .str, bxo := [], loops := [], noJoin := [], outC := [.str], prim := none }
/-- 17: strings.trimRightByte -/
noncomputable def en_strings_trimRightByte : Entry := { f := 81, fn := Tryd.f81, ins := [.one .str, .one (.int .u8)], bx := [], outs := .one .str, bxo := [], loops := [(0, lp_strings_trimRightByte_0)], noJoin := [1], outC := [.str], prim := none }
noncomputable def tabL : List Entry := [en_FnExactValText, en_szVal, en_toVal, en_sValText, en_sToText, en_sDecText, en_sDecOk, en_sl1In, en_sl1Abs, en_sl2Digits, en_iValText, en_iToText, en_iDecText, en_iDecOk, en_iin, en_strconv_Itoa, en_strings_TrimRight, en_strings_trimRightByte]
noncomputable def tab (e : Nat) : Entry := tabOf tabL en_FnExactValText e
def candL : List (FuncId × List Nat) := [(4, [0]), (11, [1]), (12, [3]), (13, [2]), (14, [10]), (21, [7]), (24, [14]), (27, [4]), (28, [11]), (52, [15]), (54, [5]), (55, [12]), (66, [9]), (70, [6]), (71, [8]), (72, [13]), (73, [16]), (81, [17])]
def cands (f : FuncId) : List Nat := lookC f candL
noncomputable def LL_sDecText_0 (n : Nat) : Nat → List DV → Option (Sum (InterpA lp_sDecText_0.2.2) (InterpA en_sDecText.outC)) := loopF T (callM tab cands (D T tab cands n)) en_sDecText n 0 lp_sDecText_0
noncomputable def LL_sl2Digits_0 (n : Nat) : Nat → List DV → Option (Sum (InterpA lp_sl2Digits_0.2.2) (InterpA en_sl2Digits.outC)) := loopF T (callM tab cands (D T tab cands n)) en_sl2Digits n 0 lp_sl2Digits_0
noncomputable def LL_strings_trimRightByte_0 (n : Nat) : Nat → List DV → Option (Sum (InterpA lp_strings_trimRightByte_0.2.2) (InterpA en_strings_trimRightByte.outC)) := loopF T (callM tab cands (D T tab cands n)) en_strings_trimRightByte n 0 lp_strings_trimRightByte_0
abbrev i_FnExactValText : Nat := 0
abbrev i_szVal : Nat := 1
abbrev i_toVal : Nat := 2
abbrev i_sValText : Nat := 3
abbrev i_sToText : Nat := 4
abbrev i_sDecText : Nat := 5
abbrev i_sDecOk : Nat := 6
abbrev i_sl1In : Nat := 7
abbrev i_sl1Abs : Nat := 8
abbrev i_sl2Digits : Nat := 9
abbrev i_iValText : Nat := 10
abbrev i_iToText : Nat := 11
abbrev i_iDecText : Nat := 12
abbrev i_iDecOk : Nat := 13
abbrev i_iin : Nat := 14
abbrev i_strconv_Itoa : Nat := 15
abbrev i_strings_TrimRight : Nat := 16
abbrev i_strings_trimRightByte : Nat := 17
theorem en_FnExactValText_ok : EntOk Tryd.prog en_FnExactValText := ⟨by kernel_rfl, by kernel_rfl, by kernel_rfl, by kernel_rfl, by kernel_rfl⟩
theorem en_szVal_ok : EntOk Tryd.prog en_szVal := ⟨by kernel_rfl, by kernel_rfl, by kernel_rfl, by kernel_rfl, by kernel_rfl⟩
theorem en_toVal_ok : EntOk Tryd.prog en_toVal := ⟨by kernel_rfl, by kernel_rfl, by kernel_rfl, by kernel_rfl, by kernel_rfl⟩
theorem en_sValText_ok : EntOk Tryd.prog en_sValText := ⟨by kernel_rfl, by kernel_rfl, by kernel_rfl, by kernel_rfl, by kernel_rfl⟩
theorem en_sToText_ok : EntOk Tryd.prog en_sToText := ⟨by kernel_rfl, by kernel_rfl, by kernel_rfl, by kernel_rfl, by kernel_rfl⟩
theorem en_sDecText_ok : EntOk Tryd.prog en_sDecText := ⟨by kernel_rfl, by kernel_rfl, by kernel_rfl, by kernel_rfl, by kernel_rfl⟩
theorem en_sDecOk_ok : EntOk Tryd.prog en_sDecOk := ⟨by kernel_rfl, by kernel_rfl, by kernel_rfl, by kernel_rfl, by kernel_rfl⟩
theorem en_sl1In_ok : EntOk Tryd.prog en_sl1In := ⟨by kernel_rfl, by kernel_rfl, by kernel_rfl, by kernel_rfl, by kernel_rfl⟩
theorem en_sl1Abs_ok : EntOk Tryd.prog en_sl1Abs := ⟨by kernel_rfl, by kernel_rfl, by kernel_rfl, by kernel_rfl, by kernel_rfl⟩
theorem en_sl2Digits_ok : EntOk Tryd.prog en_sl2Digits := ⟨by kernel_rfl, by kernel_rfl, by kernel_rfl, by kernel_rfl, by kernel_rfl⟩
theorem en_iValText_ok : EntOk Tryd.prog en_iValText := ⟨by kernel_rfl, by kernel_rfl, by kernel_rfl, by kernel_rfl, by kernel_rfl⟩
theorem en_iToText_ok : EntOk Tryd.prog en_iToText := ⟨by kernel_rfl, by kernel_rfl, by kernel_rfl, by kernel_rfl, by kernel_rfl⟩
theorem en_iDecText_ok : EntOk Tryd.prog en_iDecText := ⟨by kernel_rfl, by kernel_rfl, by kernel_rfl, by kernel_rfl, by kernel_rfl⟩
theorem en_iDecOk_ok : EntOk Tryd.prog en_iDecOk := ⟨by kernel_rfl, by kernel_rfl, by kernel_rfl, by kernel_rfl, by kernel_rfl⟩
theorem en_iin_ok : EntOk Tryd.prog en_iin := ⟨by kernel_rfl, by kernel_rfl, by kernel_rfl, by kernel_rfl, by kernel_rfl⟩
theorem en_strconv_Itoa_ok : EntOk Tryd.prog en_strconv_Itoa := ⟨by kernel_rfl, by kernel_rfl, by kernel_rfl, by kernel_rfl, by kernel_rfl⟩
theorem en_strings_TrimRight_ok : EntOk Tryd.prog en_strings_TrimRight := ⟨by kernel_rfl, by kernel_rfl, by kernel_rfl, by kernel_rfl, by kernel_rfl⟩
theorem en_strings_trimRightByte_ok : EntOk Tryd.prog en_strings_trimRightByte := ⟨by kernel_rfl, by kernel_rfl, by kernel_rfl, by kernel_rfl, by kernel_rfl⟩
theorem tys_ok : tysB Tryd.prog tys = true := by kernel_rfl
theorem ents_ok : Ents Tryd.prog tabL := .cons en_FnExactValText_ok (.cons en_szVal_ok (.cons en_toVal_ok (.cons en_sValText_ok (.cons en_sToText_ok (.cons en_sDecText_ok (.cons en_sDecOk_ok (.cons en_sl1In_ok (.cons en_sl1Abs_ok (.cons en_sl2Digits_ok (.cons en_iValText_ok (.cons en_iToText_ok (.cons en_iDecText_ok (.cons en_iDecOk_ok (.cons en_iin_ok (.cons en_strconv_Itoa_ok (.cons en_strings_TrimRight_ok (.cons en_strings_trimRightByte_ok Ents.nil)))))))))))))))))
end Go.Proofs.YtmabfdnconccnaaDoor
