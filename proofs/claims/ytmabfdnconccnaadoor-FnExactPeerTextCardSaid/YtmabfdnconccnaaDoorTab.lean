/- Entries of the functions, and the closed facts about them. -/
import Derived.Test.YtmabfdnconccnaaDoorEv3
import Derived.Test.YtmabfdnconccnaaDoorProg
import Derived.KernelRfl
namespace Go.Proofs.YtmabfdnconccnaaDoor
open Go Go.Ev
@[reducible] def c_s : CT := (.sl (.one .str))
@[reducible] def c_b : CT := (.sl (.one .bool))
@[reducible] def c_u : CT := (.sl (.one (.int .u8)))
@[reducible] def c_i : CT := (.sl (.one (.int .i64)))
@[reducible] def c_iis : CT := (.sl (.cons (.int .i64) (.cons (.int .i64) (.one .str))))
@[reducible] def c_iiis : CT := (.sl (.cons (.int .i64) (.cons (.int .i64) (.cons (.int .i64) (.one .str)))))
@[reducible] def c_isiis : CT := (.sl (.cons (.int .i64) (.cons .str (.cons (.int .i64) (.cons (.int .i64) (.one .str))))))
@[reducible] def c_iiiiiiiLiiisEbs : CT := (.sl (.cons (.int .i64) (.cons (.int .i64) (.cons (.int .i64) (.cons (.int .i64) (.cons (.int .i64) (.cons (.int .i64) (.cons (.int .i64) (.cons c_iiis (.cons .bool (.one .str)))))))))))
abbrev t_i : Type := List Int
abbrev t_b : Type := List Bool
abbrev t_s : Type := List Bytes
abbrev t_u : Type := List UInt8
abbrev t_iis : Type := List (Int × (Int × Bytes))
abbrev t_iiis : Type := List (Int × (Int × (Int × Bytes)))
abbrev t_isiis : Type := List (Int × (Bytes × (Int × (Int × Bytes))))
abbrev t_iiiiiiiLiiisEbs : Type := List (Int × (Int × (Int × (Int × (Int × (Int × (Int × (t_iiis × (Bool × Bytes)))))))))
def tys : List (TypeId × TyI) := [
  (3, ⟨.int .i64, 1, 8, [.i .i64 0], some (.one (.int .i64)), false⟩),
  (4, ⟨.bool, 1, 1, [.b false], some (.one .bool), false⟩),
  (5, ⟨.int .u8, 1, 1, [.i .u8 0], some (.one (.int .u8)), false⟩),
  (9, ⟨.str, 1, 16, [.s []], some (.one .str), false⟩),
  (22, ⟨.slice 108, 1, 24, [.nl], some (.one c_iiis), false⟩),
  (24, ⟨.struct [(0, 3), (1, 3), (2, 3), (3, 3), (4, 3), (5, 3), (6, 3), (7, 22), (8, 4), (9, 9)], 10, 104, [.i .i64 0, .i .i64 0, .i .i64 0, .i .i64 0, .i .i64 0, .i .i64 0, .i .i64 0, .nl, .b false, .s []], some (.cons (.int .i64) (.cons (.int .i64) (.cons (.int .i64) (.cons (.int .i64) (.cons (.int .i64) (.cons (.int .i64) (.cons (.int .i64) (.cons c_iiis (.cons .bool (.one .str)))))))))), false⟩),
  (27, ⟨.slice 112, 1, 24, [.nl], some (.one c_iiis), false⟩),
  (29, ⟨.struct [(0, 3), (1, 3), (2, 3), (3, 3), (4, 3), (5, 3), (6, 3), (7, 27), (8, 4), (9, 9)], 10, 104, [.i .i64 0, .i .i64 0, .i .i64 0, .i .i64 0, .i .i64 0, .i .i64 0, .i .i64 0, .nl, .b false, .s []], some (.cons (.int .i64) (.cons (.int .i64) (.cons (.int .i64) (.cons (.int .i64) (.cons (.int .i64) (.cons (.int .i64) (.cons (.int .i64) (.cons c_iiis (.cons .bool (.one .str)))))))))), false⟩),
  (34, ⟨.struct [(0, 3), (1, 3), (2, 9)], 3, 32, [.i .i64 0, .i .i64 0, .s []], some (.cons (.int .i64) (.cons (.int .i64) (.one .str))), false⟩),
  (37, ⟨.struct [(0, 3), (1, 3), (2, 9)], 3, 32, [.i .i64 0, .i .i64 0, .s []], some (.cons (.int .i64) (.cons (.int .i64) (.one .str))), false⟩),
  (41, ⟨.struct [(0, 3), (1, 3), (2, 22)], 3, 40, [.i .i64 0, .i .i64 0, .nl], some (.cons (.int .i64) (.cons (.int .i64) (.one c_iiis))), false⟩),
  (42, ⟨.slice 34, 1, 24, [.nl], some (.one c_iis), false⟩),
  (43, ⟨.slice 146, 1, 24, [.nl], some (.one c_isiis), false⟩),
  (45, ⟨.struct [(0, 42), (1, 43), (2, 3), (3, 3)], 4, 64, [.nl, .nl, .i .i64 0, .i .i64 0], some (.cons c_iis (.cons c_isiis (.cons (.int .i64) (.one (.int .i64))))), false⟩),
  (46, ⟨.slice 3, 1, 24, [.nl], some (.one c_i), false⟩),
  (48, ⟨.struct [(0, 45), (4, 46), (5, 9)], 6, 104, [.nl, .nl, .i .i64 0, .i .i64 0, .nl, .s []], some (.cons c_iis (.cons c_isiis (.cons (.int .i64) (.cons (.int .i64) (.cons c_i (.one .str)))))), false⟩),
  (50, ⟨.struct [(0, 3), (1, 3), (2, 41), (5, 48)], 11, 160, [.i .i64 0, .i .i64 0, .i .i64 0, .i .i64 0, .nl, .nl, .nl, .i .i64 0, .i .i64 0, .nl, .s []], some (.cons (.int .i64) (.cons (.int .i64) (.cons (.int .i64) (.cons (.int .i64) (.cons c_iiis (.cons c_iis (.cons c_isiis (.cons (.int .i64) (.cons (.int .i64) (.cons c_i (.one .str))))))))))), false⟩),
  (51, ⟨.slice 4, 1, 24, [.nl], some (.one c_b), false⟩),
  (52, ⟨.slice 5, 1, 24, [.nl], some (.one c_u), false⟩),
  (54, ⟨.struct [(0, 52), (1, 3)], 2, 32, [.nl, .i .i64 0], some (.cons c_u (.one (.int .i64))), false⟩),
  (55, ⟨.slice 24, 1, 24, [.nl], some (.one c_iiiiiiiLiiisEbs), false⟩),
  (57, ⟨.struct [(0, 3), (1, 50), (12, 3), (13, 51), (14, 46), (15, 46), (16, 3), (17, 48), (23, 54), (25, 55)], 26, 416, [.i .i64 0, .i .i64 0, .i .i64 0, .i .i64 0, .i .i64 0, .nl, .nl, .nl, .i .i64 0, .i .i64 0, .nl, .s [], .i .i64 0, .nl, .nl, .nl, .i .i64 0, .nl, .nl, .i .i64 0, .i .i64 0, .nl, .s [], .nl, .i .i64 0, .nl], some (.cons (.int .i64) (.cons (.int .i64) (.cons (.int .i64) (.cons (.int .i64) (.cons (.int .i64) (.cons c_iiis (.cons c_iis (.cons c_isiis (.cons (.int .i64) (.cons (.int .i64) (.cons c_i (.cons .str (.cons (.int .i64) (.cons c_b (.cons c_i (.cons c_i (.cons (.int .i64) (.cons c_iis (.cons c_isiis (.cons (.int .i64) (.cons (.int .i64) (.cons c_i (.cons .str (.cons c_u (.cons (.int .i64) (.one c_iiiiiiiLiiisEbs)))))))))))))))))))))))))), false⟩),
  (61, ⟨.struct [(0, 3), (1, 3), (2, 27)], 3, 40, [.i .i64 0, .i .i64 0, .nl], some (.cons (.int .i64) (.cons (.int .i64) (.one c_iiis))), false⟩),
  (62, ⟨.slice 37, 1, 24, [.nl], some (.one c_iis), false⟩),
  (63, ⟨.slice 148, 1, 24, [.nl], some (.one c_isiis), false⟩),
  (65, ⟨.struct [(0, 62), (1, 63), (2, 3), (3, 3)], 4, 64, [.nl, .nl, .i .i64 0, .i .i64 0], some (.cons c_iis (.cons c_isiis (.cons (.int .i64) (.one (.int .i64))))), false⟩),
  (67, ⟨.struct [(0, 65), (4, 46), (5, 9)], 6, 104, [.nl, .nl, .i .i64 0, .i .i64 0, .nl, .s []], some (.cons c_iis (.cons c_isiis (.cons (.int .i64) (.cons (.int .i64) (.cons c_i (.one .str)))))), false⟩),
  (69, ⟨.struct [(0, 3), (1, 3), (2, 61), (5, 67)], 11, 160, [.i .i64 0, .i .i64 0, .i .i64 0, .i .i64 0, .nl, .nl, .nl, .i .i64 0, .i .i64 0, .nl, .s []], some (.cons (.int .i64) (.cons (.int .i64) (.cons (.int .i64) (.cons (.int .i64) (.cons c_iiis (.cons c_iis (.cons c_isiis (.cons (.int .i64) (.cons (.int .i64) (.cons c_i (.one .str))))))))))), false⟩),
  (70, ⟨.struct [(0, 52), (1, 3)], 2, 32, [.nl, .i .i64 0], some (.cons c_u (.one (.int .i64))), false⟩),
  (71, ⟨.slice 29, 1, 24, [.nl], some (.one c_iiiiiiiLiiisEbs), false⟩),
  (73, ⟨.struct [(0, 3), (1, 69), (12, 3), (13, 51), (14, 46), (15, 46), (16, 3), (17, 67), (23, 70), (25, 71)], 26, 416, [.i .i64 0, .i .i64 0, .i .i64 0, .i .i64 0, .i .i64 0, .nl, .nl, .nl, .i .i64 0, .i .i64 0, .nl, .s [], .i .i64 0, .nl, .nl, .nl, .i .i64 0, .nl, .nl, .i .i64 0, .i .i64 0, .nl, .s [], .nl, .i .i64 0, .nl], some (.cons (.int .i64) (.cons (.int .i64) (.cons (.int .i64) (.cons (.int .i64) (.cons (.int .i64) (.cons c_iiis (.cons c_iis (.cons c_isiis (.cons (.int .i64) (.cons (.int .i64) (.cons c_i (.cons .str (.cons (.int .i64) (.cons c_b (.cons c_i (.cons c_i (.cons (.int .i64) (.cons c_iis (.cons c_isiis (.cons (.int .i64) (.cons (.int .i64) (.cons c_i (.cons .str (.cons c_u (.cons (.int .i64) (.one c_iiiiiiiLiiisEbs)))))))))))))))))))))))))), false⟩),
  (78, ⟨.slice 9, 1, 24, [.nl], some (.one c_s), false⟩),
  (106, ⟨.struct [(0, 3), (1, 3), (2, 9)], 3, 32, [.i .i64 0, .i .i64 0, .s []], some (.cons (.int .i64) (.cons (.int .i64) (.one .str))), false⟩),
  (108, ⟨.struct [(0, 3), (1, 106)], 4, 40, [.i .i64 0, .i .i64 0, .i .i64 0, .s []], some (.cons (.int .i64) (.cons (.int .i64) (.cons (.int .i64) (.one .str)))), false⟩),
  (110, ⟨.struct [(0, 3), (1, 3), (2, 9)], 3, 32, [.i .i64 0, .i .i64 0, .s []], some (.cons (.int .i64) (.cons (.int .i64) (.one .str))), false⟩),
  (112, ⟨.struct [(0, 3), (1, 110)], 4, 40, [.i .i64 0, .i .i64 0, .i .i64 0, .s []], some (.cons (.int .i64) (.cons (.int .i64) (.cons (.int .i64) (.one .str)))), false⟩),
  (146, ⟨.struct [(0, 3), (1, 9), (2, 34)], 5, 56, [.i .i64 0, .s [], .i .i64 0, .i .i64 0, .s []], some (.cons (.int .i64) (.cons .str (.cons (.int .i64) (.cons (.int .i64) (.one .str))))), false⟩),
  (148, ⟨.struct [(0, 3), (1, 9), (2, 37)], 5, 56, [.i .i64 0, .s [], .i .i64 0, .i .i64 0, .s []], some (.cons (.int .i64) (.cons .str (.cons (.int .i64) (.cons (.int .i64) (.one .str))))), false⟩)]
def T (t : TypeId) : Option TyI := lookT t tys
def lp_szEntryS_0 : Gam × Gam × List CT := (⟨[(5, .one (.int .i64)), (1, .one (.int .i64)), (0, .one (.sh c_iiis))], []⟩, ⟨[(1, .one (.int .i64))], []⟩, [(.int .i64)])
def lp_toEntryS_0 : Gam × Gam × List CT := (⟨[(4, .one (.int .i64)), (0, .one (.sh c_iiis)), (3, .one (.own c_iiis))], []⟩, ⟨[(3, .one (.own c_iiis))], []⟩, [c_iiis])
def lp_sl29Nums_0 : Gam × Gam × List CT := (⟨[(4, .one (.int .i64)), (0, .one (.sh c_i)), (3, .one .str)], []⟩, ⟨[(3, .one .str)], []⟩, [.str])
def lp_sl2Digits_0 : Gam × Gam × List CT := (⟨[(0, .one (.int .i64)), (3, .one .str)], []⟩, ⟨[(3, .one .str)], []⟩, [.str])
def lp_ispaced_0 : Gam × Gam × List CT := (⟨[(8, .one (.int .i64)), (3, .one .str), (6, .one (.sh c_i)), (7, .one (.int .i64))], []⟩, ⟨[(3, .one .str)], []⟩, [.str])
def lp_eqEntryS_0 : Gam × Gam × List CT := (⟨[(5, .one (.int .i64)), (1, .one (.sh c_iiis)), (0, .one (.sh c_iiis))], []⟩, ⟨[], []⟩, [])
def lp_szValS_0 : Gam × Gam × List CT := (⟨[(5, .one (.int .i64)), (1, .one (.int .i64)), (0, .one (.sh c_iis))], []⟩, ⟨[(1, .one (.int .i64))], []⟩, [(.int .i64)])
def lp_szCellS_0 : Gam × Gam × List CT := (⟨[(5, .one (.int .i64)), (1, .one (.int .i64)), (0, .one (.sh c_isiis))], []⟩, ⟨[(1, .one (.int .i64))], []⟩, [(.int .i64)])
def lp_szRpcS_0 : Gam × Gam × List CT := (⟨[(5, .one (.int .i64)), (1, .one (.int .i64)), (0, .one (.sh c_iiiiiiiLiiisEbs))], []⟩, ⟨[(1, .one (.int .i64))], []⟩, [(.int .i64)])
def lp_toValS_0 : Gam × Gam × List CT := (⟨[(4, .one (.int .i64)), (0, .one (.sh c_iis)), (3, .one (.own c_iis))], []⟩, ⟨[(3, .one (.own c_iis))], []⟩, [c_iis])
def lp_toCellS_0 : Gam × Gam × List CT := (⟨[(4, .one (.int .i64)), (0, .one (.sh c_isiis)), (3, .one (.own c_isiis))], []⟩, ⟨[(3, .one (.own c_isiis))], []⟩, [c_isiis])
def lp_toIntS_0 : Gam × Gam × List CT := (⟨[(4, .one (.int .i64)), (0, .one (.sh c_i)), (3, .one (.own c_i))], []⟩, ⟨[(3, .one (.own c_i))], []⟩, [c_i])
def lp_toBoolS_0 : Gam × Gam × List CT := (⟨[(4, .one (.int .i64)), (0, .one (.sh c_b)), (3, .one (.own c_b))], []⟩, ⟨[(3, .one (.own c_b))], []⟩, [c_b])
def lp_toByteS_0 : Gam × Gam × List CT := (⟨[(4, .one (.int .i64)), (0, .one (.sh c_u)), (3, .one (.own c_u))], []⟩, ⟨[(3, .one (.own c_u))], []⟩, [c_u])
def lp_toRpcS_0 : Gam × Gam × List CT := (⟨[(4, .one (.int .i64)), (0, .one (.sh c_iiiiiiiLiiisEbs)), (3, .one (.own c_iiiiiiiLiiisEbs))], []⟩, ⟨[(3, .one (.own c_iiiiiiiLiiisEbs))], []⟩, [c_iiiiiiiLiiisEbs])
def lp_eqValS_0 : Gam × Gam × List CT := (⟨[(5, .one (.int .i64)), (1, .one (.sh c_iis)), (0, .one (.sh c_iis))], []⟩, ⟨[], []⟩, [])
def lp_eqCellS_0 : Gam × Gam × List CT := (⟨[(5, .one (.int .i64)), (1, .one (.sh c_isiis)), (0, .one (.sh c_isiis))], []⟩, ⟨[], []⟩, [])
def lp_eqIntS_0 : Gam × Gam × List CT := (⟨[(5, .one (.int .i64)), (1, .one (.sh c_i)), (0, .one (.sh c_i))], []⟩, ⟨[], []⟩, [])
def lp_eqBoolS_0 : Gam × Gam × List CT := (⟨[(5, .one (.int .i64)), (1, .one (.sh c_b)), (0, .one (.sh c_b))], []⟩, ⟨[], []⟩, [])
def lp_eqByteS_0 : Gam × Gam × List CT := (⟨[(5, .one (.int .i64)), (1, .one (.sh c_u)), (0, .one (.sh c_u))], []⟩, ⟨[], []⟩, [])
def lp_eqRpcS_0 : Gam × Gam × List CT := (⟨[(5, .one (.int .i64)), (1, .one (.sh c_iiiiiiiLiiisEbs)), (0, .one (.sh c_iiiiiiiLiiisEbs))], []⟩, ⟨[], []⟩, [])
/-- 0: loop.example/g00289/laws.FnExactRpcText -/
noncomputable def en_FnExactRpcText : Entry := { f := 3, fn := Tryd.f3, ins := [.agg [(.int .i64), (.int .i64), (.int .i64), (.int .i64), (.int .i64), (.int .i64), (.int .i64), (.sh c_iiis), .bool, .str]], bx := [], outs := .one .bool, bxo := [], loops := [], noJoin := [], outC := [.bool], prim := none }
/-- 1: loop.example/g00289/laws.szRpc -/
noncomputable def en_szRpc : Entry := { f := 6, fn := Tryd.f6, ins := [.agg [(.int .i64), (.int .i64), (.int .i64), (.int .i64), (.int .i64), (.int .i64), (.int .i64), (.sh c_iiis), .bool, .str], .one (.int .i64)], bx := [], outs := .one (.int .i64), bxo := [], loops := [], noJoin := [], outC := [(.int .i64)], prim := none }
/-- 2: loop.example/g00289/laws.szEntryS -/
noncomputable def en_szEntryS : Entry := { f := 20, fn := Tryd.f20, ins := [.one (.sh c_iiis), .one (.int .i64)], bx := [], outs := .one (.int .i64), bxo := [], loops := [(0, lp_szEntryS_0)], noJoin := [], outC := [(.int .i64)], prim := none }
/-- 3: loop.example/g00289/laws.szEntry -/
noncomputable def en_szEntry : Entry := { f := 49, fn := Tryd.f49, ins := [.agg [(.int .i64), (.int .i64), (.int .i64), .str], .one (.int .i64)], bx := [], outs := .one (.int .i64), bxo := [], loops := [], noJoin := [], outC := [(.int .i64)], prim := none }
/-- 4: loop.example/g00289/laws.szCmd -/
noncomputable def en_szCmd : Entry := { f := 65, fn := Tryd.f65, ins := [.agg [(.int .i64), (.int .i64), .str], .one (.int .i64)], bx := [], outs := .one (.int .i64), bxo := [], loops := [], noJoin := [], outC := [(.int .i64)], prim := none }
/-- 5: loop.example/g00289/laws.toRpc -/
noncomputable def en_toRpc : Entry := { f := 8, fn := Tryd.f8, ins := [.agg [(.int .i64), (.int .i64), (.int .i64), (.int .i64), (.int .i64), (.int .i64), (.int .i64), (.sh c_iiis), .bool, .str]], bx := [], outs := .agg [(.int .i64), (.int .i64), (.int .i64), (.int .i64), (.int .i64), (.int .i64), (.int .i64), (.own c_iiis), .bool, .str], bxo := [], loops := [], noJoin := [], outC := [(.int .i64), (.int .i64), (.int .i64), (.int .i64), (.int .i64), (.int .i64), (.int .i64), c_iiis, .bool, .str], prim := none }
/-- 6: loop.example/g00289/laws.toEntryS -/
noncomputable def en_toEntryS : Entry := { f := 23, fn := Tryd.f23, ins := [.one (.sh c_iiis)], bx := [], outs := .one (.own c_iiis), bxo := [], loops := [(0, lp_toEntryS_0)], noJoin := [], outC := [c_iiis], prim := none }
/-- 7: loop.example/g00289/laws.toEntry -/
noncomputable def en_toEntry : Entry := { f := 51, fn := Tryd.f51, ins := [.agg [(.int .i64), (.int .i64), (.int .i64), .str]], bx := [], outs := .agg [(.int .i64), (.int .i64), (.int .i64), .str], bxo := [], loops := [], noJoin := [], outC := [(.int .i64), (.int .i64), (.int .i64), .str], prim := none }
/-- 8: loop.example/g00289/laws.toCmd -/
noncomputable def en_toCmd : Entry := { f := 67, fn := Tryd.f67, ins := [.agg [(.int .i64), (.int .i64), .str]], bx := [], outs := .agg [(.int .i64), (.int .i64), .str], bxo := [], loops := [], noJoin := [], outC := [(.int .i64), (.int .i64), .str], prim := none }
/-- 9: loop.example/g00289/spec.RpcText -/
noncomputable def en_sRpcText : Entry := { f := 7, fn := Tryd.f7, ins := [.agg [(.int .i64), (.int .i64), (.int .i64), (.int .i64), (.int .i64), (.int .i64), (.int .i64), (.sh c_iiis), .bool, .str]], bx := [], outs := .one .str, bxo := [], loops := [], noJoin := [], outC := [.str], prim := none }
/-- 10: loop.example/g00289/spec.l1In -/
noncomputable def en_sl1In : Entry := { f := 21, fn := Tryd.f21, ins := [.one (.int .i64), .one (.int .i64), .one (.int .i64)], bx := [], outs := .one .bool, bxo := [], loops := [], noJoin := [], outC := [.bool], prim := none }
/-- 11: loop.example/g00289/spec.l29Nums -/
noncomputable def en_sl29Nums : Entry := { f := 22, fn := Tryd.f22, ins := [.one (.sh c_i)], bx := [], outs := .one .str, bxo := [], loops := [(0, lp_sl29Nums_0)], noJoin := [], outC := [.str], prim := none }
/-- 12: loop.example/g00289/spec.l29Int -/
noncomputable def en_sl29Int : Entry := { f := 50, fn := Tryd.f50, ins := [.one (.int .i64)], bx := [], outs := .one .str, bxo := [], loops := [], noJoin := [], outC := [.str], prim := none }
/-- 13: loop.example/g00289/spec.l2Digits -/
noncomputable def en_sl2Digits : Entry := { f := 66, fn := Tryd.f66, ins := [.one (.int .i64)], bx := [], outs := .one .str, bxo := [], loops := [(0, lp_sl2Digits_0)], noJoin := [], outC := [.str], prim := none }
/-- 14: loop.example/g00289/impl.RpcText -/
noncomputable def en_iRpcText : Entry := { f := 9, fn := Tryd.f9, ins := [.agg [(.int .i64), (.int .i64), (.int .i64), (.int .i64), (.int .i64), (.int .i64), (.int .i64), (.sh c_iiis), .bool, .str]], bx := [], outs := .one .str, bxo := [], loops := [], noJoin := [], outC := [.str], prim := none }
/-- 15: loop.example/g00289/impl.in -/
noncomputable def en_iin : Entry := { f := 24, fn := Tryd.f24, ins := [.one (.int .i64), .one (.int .i64), .one (.int .i64)], bx := [], outs := .one .bool, bxo := [], loops := [], noJoin := [], outC := [.bool], prim := none }
/-- 16: loop.example/g00289/impl.spaced -/
noncomputable def en_ispaced : Entry := { f := 25, fn := Tryd.f25, ins := [.one (.sh c_i)], bx := [], outs := .one .str, bxo := [], loops := [(0, lp_ispaced_0)], noJoin := [], outC := [.str], prim := none }
/-- 17: strconv.Itoa -/
noncomputable def en_strconv_Itoa : Entry := { f := 52, fn := Tryd.f52, ins := [.one (.int .i64)], bx := [], outs := .one .str, bxo := [], loops := [], noJoin := [], outC := [.str], prim := some primItoa }
/-- 18: loop.example/g00289/laws.eqRpc -/
noncomputable def en_eqRpc : Entry := { f := 10, fn := Tryd.f10, ins := [.agg [(.int .i64), (.int .i64), (.int .i64), (.int .i64), (.int .i64), (.int .i64), (.int .i64), (.sh c_iiis), .bool, .str], .agg [(.int .i64), (.int .i64), (.int .i64), (.int .i64), (.int .i64), (.int .i64), (.int .i64), (.sh c_iiis), .bool, .str]], bx := [], outs := .one .bool, bxo := [], loops := [], noJoin := [], outC := [.bool], prim := none }
/-- 19: loop.example/g00289/laws.eqEntryS -/
noncomputable def en_eqEntryS : Entry := { f := 26, fn := Tryd.f26, ins := [.one (.sh c_iiis), .one (.sh c_iiis)], bx := [], outs := .one .bool, bxo := [], loops := [(0, lp_eqEntryS_0)], noJoin := [], outC := [.bool], prim := none }
/-- 20: loop.example/g00289/laws.eqEntry -/
noncomputable def en_eqEntry : Entry := { f := 53, fn := Tryd.f53, ins := [.agg [(.int .i64), (.int .i64), (.int .i64), .str], .agg [(.int .i64), (.int .i64), (.int .i64), .str]], bx := [], outs := .one .bool, bxo := [], loops := [], noJoin := [], outC := [.bool], prim := none }
/-- 21: loop.example/g00289/laws.eqCmd -/
noncomputable def en_eqCmd : Entry := { f := 69, fn := Tryd.f69, ins := [.agg [(.int .i64), (.int .i64), .str], .agg [(.int .i64), (.int .i64), .str]], bx := [], outs := .one .bool, bxo := [], loops := [], noJoin := [], outC := [.bool], prim := none }
/-- 22: loop.example/g00289/laws.FnExactPeerText -/
noncomputable def en_FnExactPeerText : Entry := { f := 5, fn := Tryd.f5, ins := [.agg [(.int .i64), (.int .i64), (.int .i64), (.int .i64), (.int .i64), (.sh c_iiis), (.sh c_iis), (.sh c_isiis), (.int .i64), (.int .i64), (.sh c_i), .str, (.int .i64), (.sh c_b), (.sh c_i), (.sh c_i), (.int .i64), (.sh c_iis), (.sh c_isiis), (.int .i64), (.int .i64), (.sh c_i), .str, (.sh c_u), (.int .i64), (.sh c_iiiiiiiLiiisEbs)]], bx := [], outs := .one .bool, bxo := [], loops := [], noJoin := [], outC := [.bool], prim := none }
/-- 23: loop.example/g00289/laws.szPeer -/
noncomputable def en_szPeer : Entry := { f := 15, fn := Tryd.f15, ins := [.agg [(.int .i64), (.int .i64), (.int .i64), (.int .i64), (.int .i64), (.sh c_iiis), (.sh c_iis), (.sh c_isiis), (.int .i64), (.int .i64), (.sh c_i), .str, (.int .i64), (.sh c_b), (.sh c_i), (.sh c_i), (.int .i64), (.sh c_iis), (.sh c_isiis), (.int .i64), (.int .i64), (.sh c_i), .str, (.sh c_u), (.int .i64), (.sh c_iiiiiiiLiiisEbs)], .one (.int .i64)], bx := [], outs := .one (.int .i64), bxo := [], loops := [], noJoin := [], outC := [(.int .i64)], prim := none }
/-- 24: loop.example/g00289/laws.szHard -/
noncomputable def en_szHard : Entry := { f := 29, fn := Tryd.f29, ins := [.agg [(.int .i64), (.int .i64), (.int .i64), (.int .i64), (.sh c_iiis), (.sh c_iis), (.sh c_isiis), (.int .i64), (.int .i64), (.sh c_i), .str], .one (.int .i64)], bx := [], outs := .one (.int .i64), bxo := [], loops := [], noJoin := [], outC := [(.int .i64)], prim := none }
/-- 25: loop.example/g00289/laws.szLog -/
noncomputable def en_szLog : Entry := { f := 56, fn := Tryd.f56, ins := [.agg [(.int .i64), (.int .i64), (.sh c_iiis)], .one (.int .i64)], bx := [], outs := .one (.int .i64), bxo := [], loops := [], noJoin := [], outC := [(.int .i64)], prim := none }
/-- 26: loop.example/g00289/laws.szMach -/
noncomputable def en_szMach : Entry := { f := 32, fn := Tryd.f32, ins := [.agg [(.sh c_iis), (.sh c_isiis), (.int .i64), (.int .i64), (.sh c_i), .str], .one (.int .i64)], bx := [], outs := .one (.int .i64), bxo := [], loops := [], noJoin := [], outC := [(.int .i64)], prim := none }
/-- 27: loop.example/g00289/laws.szState -/
noncomputable def en_szState : Entry := { f := 57, fn := Tryd.f57, ins := [.agg [(.sh c_iis), (.sh c_isiis), (.int .i64), (.int .i64)], .one (.int .i64)], bx := [], outs := .one (.int .i64), bxo := [], loops := [], noJoin := [], outC := [(.int .i64)], prim := none }
/-- 28: loop.example/g00289/laws.szValS -/
noncomputable def en_szValS : Entry := { f := 74, fn := Tryd.f74, ins := [.one (.sh c_iis), .one (.int .i64)], bx := [], outs := .one (.int .i64), bxo := [], loops := [(0, lp_szValS_0)], noJoin := [], outC := [(.int .i64)], prim := none }
/-- 29: loop.example/g00289/laws.szVal -/
noncomputable def en_szVal : Entry := { f := 11, fn := Tryd.f11, ins := [.agg [(.int .i64), (.int .i64), .str], .one (.int .i64)], bx := [], outs := .one (.int .i64), bxo := [], loops := [], noJoin := [], outC := [(.int .i64)], prim := none }
/-- 30: loop.example/g00289/laws.szCellS -/
noncomputable def en_szCellS : Entry := { f := 75, fn := Tryd.f75, ins := [.one (.sh c_isiis), .one (.int .i64)], bx := [], outs := .one (.int .i64), bxo := [], loops := [(0, lp_szCellS_0)], noJoin := [], outC := [(.int .i64)], prim := none }
/-- 31: loop.example/g00289/laws.szCell -/
noncomputable def en_szCell : Entry := { f := 85, fn := Tryd.f85, ins := [.agg [(.int .i64), .str, (.int .i64), (.int .i64), .str], .one (.int .i64)], bx := [], outs := .one (.int .i64), bxo := [], loops := [], noJoin := [], outC := [(.int .i64)], prim := none }
/-- 32: loop.example/g00289/laws.szIntS -/
noncomputable def en_szIntS : Entry := { f := 31, fn := Tryd.f31, ins := [.one (.sh c_i), .one (.int .i64)], bx := [], outs := .one (.int .i64), bxo := [], loops := [], noJoin := [], outC := [(.int .i64)], prim := none }
/-- 33: loop.example/g00289/laws.szBoolS -/
noncomputable def en_szBoolS : Entry := { f := 30, fn := Tryd.f30, ins := [.one (.sh c_b), .one (.int .i64)], bx := [], outs := .one (.int .i64), bxo := [], loops := [], noJoin := [], outC := [(.int .i64)], prim := none }
/-- 34: loop.example/g00289/laws.szDisk -/
noncomputable def en_szDisk : Entry := { f := 33, fn := Tryd.f33, ins := [.agg [(.sh c_u), (.int .i64)], .one (.int .i64)], bx := [], outs := .one (.int .i64), bxo := [], loops := [], noJoin := [], outC := [(.int .i64)], prim := none }
/-- 35: loop.example/g00289/laws.szByteS -/
noncomputable def en_szByteS : Entry := { f := 58, fn := Tryd.f58, ins := [.one (.sh c_u), .one (.int .i64)], bx := [], outs := .one (.int .i64), bxo := [], loops := [], noJoin := [], outC := [(.int .i64)], prim := none }
/-- 36: loop.example/g00289/laws.szRpcS -/
noncomputable def en_szRpcS : Entry := { f := 34, fn := Tryd.f34, ins := [.one (.sh c_iiiiiiiLiiisEbs), .one (.int .i64)], bx := [], outs := .one (.int .i64), bxo := [], loops := [(0, lp_szRpcS_0)], noJoin := [], outC := [(.int .i64)], prim := none }
/-- 37: loop.example/g00289/laws.toPeer -/
noncomputable def en_toPeer : Entry := { f := 17, fn := Tryd.f17, ins := [.agg [(.int .i64), (.int .i64), (.int .i64), (.int .i64), (.int .i64), (.sh c_iiis), (.sh c_iis), (.sh c_isiis), (.int .i64), (.int .i64), (.sh c_i), .str, (.int .i64), (.sh c_b), (.sh c_i), (.sh c_i), (.int .i64), (.sh c_iis), (.sh c_isiis), (.int .i64), (.int .i64), (.sh c_i), .str, (.sh c_u), (.int .i64), (.sh c_iiiiiiiLiiisEbs)]], bx := [], outs := .agg [(.int .i64), (.int .i64), (.int .i64), (.int .i64), (.int .i64), (.own c_iiis), (.own c_iis), (.own c_isiis), (.int .i64), (.int .i64), (.own c_i), .str, (.int .i64), (.own c_b), (.own c_i), (.own c_i), (.int .i64), (.own c_iis), (.own c_isiis), (.int .i64), (.int .i64), (.own c_i), .str, (.own c_u), (.int .i64), (.own c_iiiiiiiLiiisEbs)], bxo := [], loops := [], noJoin := [], outC := [(.int .i64), (.int .i64), (.int .i64), (.int .i64), (.int .i64), c_iiis, c_iis, c_isiis, (.int .i64), (.int .i64), c_i, .str, (.int .i64), c_b, c_i, c_i, (.int .i64), c_iis, c_isiis, (.int .i64), (.int .i64), c_i, .str, c_u, (.int .i64), c_iiiiiiiLiiisEbs], prim := none }
/-- 38: loop.example/g00289/laws.toHard -/
noncomputable def en_toHard : Entry := { f := 36, fn := Tryd.f36, ins := [.agg [(.int .i64), (.int .i64), (.int .i64), (.int .i64), (.sh c_iiis), (.sh c_iis), (.sh c_isiis), (.int .i64), (.int .i64), (.sh c_i), .str]], bx := [], outs := .agg [(.int .i64), (.int .i64), (.int .i64), (.int .i64), (.own c_iiis), (.own c_iis), (.own c_isiis), (.int .i64), (.int .i64), (.own c_i), .str], bxo := [], loops := [], noJoin := [], outC := [(.int .i64), (.int .i64), (.int .i64), (.int .i64), c_iiis, c_iis, c_isiis, (.int .i64), (.int .i64), c_i, .str], prim := none }
/-- 39: loop.example/g00289/laws.toLog -/
noncomputable def en_toLog : Entry := { f := 59, fn := Tryd.f59, ins := [.agg [(.int .i64), (.int .i64), (.sh c_iiis)]], bx := [], outs := .agg [(.int .i64), (.int .i64), (.own c_iiis)], bxo := [], loops := [], noJoin := [], outC := [(.int .i64), (.int .i64), c_iiis], prim := none }
/-- 40: loop.example/g00289/laws.toMach -/
noncomputable def en_toMach : Entry := { f := 39, fn := Tryd.f39, ins := [.agg [(.sh c_iis), (.sh c_isiis), (.int .i64), (.int .i64), (.sh c_i), .str]], bx := [], outs := .agg [(.own c_iis), (.own c_isiis), (.int .i64), (.int .i64), (.own c_i), .str], bxo := [], loops := [], noJoin := [], outC := [c_iis, c_isiis, (.int .i64), (.int .i64), c_i, .str], prim := none }
/-- 41: loop.example/g00289/laws.toState -/
noncomputable def en_toState : Entry := { f := 60, fn := Tryd.f60, ins := [.agg [(.sh c_iis), (.sh c_isiis), (.int .i64), (.int .i64)]], bx := [], outs := .agg [(.own c_iis), (.own c_isiis), (.int .i64), (.int .i64)], bxo := [], loops := [], noJoin := [], outC := [c_iis, c_isiis, (.int .i64), (.int .i64)], prim := none }
/-- 42: loop.example/g00289/laws.toValS -/
noncomputable def en_toValS : Entry := { f := 76, fn := Tryd.f76, ins := [.one (.sh c_iis)], bx := [], outs := .one (.own c_iis), bxo := [], loops := [(0, lp_toValS_0)], noJoin := [], outC := [c_iis], prim := none }
/-- 43: loop.example/g00289/laws.toVal -/
noncomputable def en_toVal : Entry := { f := 13, fn := Tryd.f13, ins := [.agg [(.int .i64), (.int .i64), .str]], bx := [], outs := .agg [(.int .i64), (.int .i64), .str], bxo := [], loops := [], noJoin := [], outC := [(.int .i64), (.int .i64), .str], prim := none }
/-- 44: loop.example/g00289/laws.toCellS -/
noncomputable def en_toCellS : Entry := { f := 77, fn := Tryd.f77, ins := [.one (.sh c_isiis)], bx := [], outs := .one (.own c_isiis), bxo := [], loops := [(0, lp_toCellS_0)], noJoin := [], outC := [c_isiis], prim := none }
/-- 45: loop.example/g00289/laws.toCell -/
noncomputable def en_toCell : Entry := { f := 86, fn := Tryd.f86, ins := [.agg [(.int .i64), .str, (.int .i64), (.int .i64), .str]], bx := [], outs := .agg [(.int .i64), .str, (.int .i64), (.int .i64), .str], bxo := [], loops := [], noJoin := [], outC := [(.int .i64), .str, (.int .i64), (.int .i64), .str], prim := none }
/-- 46: loop.example/g00289/laws.toIntS -/
noncomputable def en_toIntS : Entry := { f := 38, fn := Tryd.f38, ins := [.one (.sh c_i)], bx := [], outs := .one (.own c_i), bxo := [], loops := [(0, lp_toIntS_0)], noJoin := [], outC := [c_i], prim := none }
/-- 47: loop.example/g00289/laws.toBoolS -/
noncomputable def en_toBoolS : Entry := { f := 37, fn := Tryd.f37, ins := [.one (.sh c_b)], bx := [], outs := .one (.own c_b), bxo := [], loops := [(0, lp_toBoolS_0)], noJoin := [], outC := [c_b], prim := none }
/-- 48: loop.example/g00289/laws.toDisk -/
noncomputable def en_toDisk : Entry := { f := 40, fn := Tryd.f40, ins := [.agg [(.sh c_u), (.int .i64)]], bx := [], outs := .agg [(.own c_u), (.int .i64)], bxo := [], loops := [], noJoin := [], outC := [c_u, (.int .i64)], prim := none }
/-- 49: loop.example/g00289/laws.toByteS -/
noncomputable def en_toByteS : Entry := { f := 61, fn := Tryd.f61, ins := [.one (.sh c_u)], bx := [], outs := .one (.own c_u), bxo := [], loops := [(0, lp_toByteS_0)], noJoin := [], outC := [c_u], prim := none }
/-- 50: loop.example/g00289/laws.toRpcS -/
noncomputable def en_toRpcS : Entry := { f := 41, fn := Tryd.f41, ins := [.one (.sh c_iiiiiiiLiiisEbs)], bx := [], outs := .one (.own c_iiiiiiiLiiisEbs), bxo := [], loops := [(0, lp_toRpcS_0)], noJoin := [], outC := [c_iiiiiiiLiiisEbs], prim := none }
/-- 51: loop.example/g00289/spec.PeerText -/
noncomputable def en_sPeerText : Entry := { f := 16, fn := Tryd.f16, ins := [.agg [(.int .i64), (.int .i64), (.int .i64), (.int .i64), (.int .i64), (.sh c_iiis), (.sh c_iis), (.sh c_isiis), (.int .i64), (.int .i64), (.sh c_i), .str, (.int .i64), (.sh c_b), (.sh c_i), (.sh c_i), (.int .i64), (.sh c_iis), (.sh c_isiis), (.int .i64), (.int .i64), (.sh c_i), .str, (.sh c_u), (.int .i64), (.sh c_iiiiiiiLiiisEbs)]], bx := [], outs := .one .str, bxo := [], loops := [], noJoin := [], outC := [.str], prim := none }
/-- 52: loop.example/g00289/spec.LastOf -/
noncomputable def en_sLastOf : Entry := { f := 35, fn := Tryd.f35, ins := [.agg [(.int .i64), (.int .i64), (.sh c_iiis)]], bx := [], outs := .tup [.one (.int .i64), .one (.int .i64)], bxo := [], loops := [], noJoin := [], outC := [(.int .i64), (.int .i64)], prim := none }
/-- 53: loop.example/g00289/impl.PeerText -/
noncomputable def en_iPeerText : Entry := { f := 18, fn := Tryd.f18, ins := [.agg [(.int .i64), (.int .i64), (.int .i64), (.int .i64), (.int .i64), (.sh c_iiis), (.sh c_iis), (.sh c_isiis), (.int .i64), (.int .i64), (.sh c_i), .str, (.int .i64), (.sh c_b), (.sh c_i), (.sh c_i), (.int .i64), (.sh c_iis), (.sh c_isiis), (.int .i64), (.int .i64), (.sh c_i), .str, (.sh c_u), (.int .i64), (.sh c_iiiiiiiLiiisEbs)]], bx := [], outs := .one .str, bxo := [], loops := [], noJoin := [], outC := [.str], prim := none }
/-- 54: loop.example/g00289/impl.LastOf -/
noncomputable def en_iLastOf : Entry := { f := 42, fn := Tryd.f42, ins := [.agg [(.int .i64), (.int .i64), (.sh c_iiis)]], bx := [], outs := .tup [.one (.int .i64), .one (.int .i64)], bxo := [], loops := [], noJoin := [], outC := [(.int .i64), (.int .i64)], prim := none }
/-- 55: loop.example/g00289/laws.eqPeer -/
noncomputable def en_eqPeer : Entry := { f := 19, fn := Tryd.f19, ins := [.agg [(.int .i64), (.int .i64), (.int .i64), (.int .i64), (.int .i64), (.sh c_iiis), (.sh c_iis), (.sh c_isiis), (.int .i64), (.int .i64), (.sh c_i), .str, (.int .i64), (.sh c_b), (.sh c_i), (.sh c_i), (.int .i64), (.sh c_iis), (.sh c_isiis), (.int .i64), (.int .i64), (.sh c_i), .str, (.sh c_u), (.int .i64), (.sh c_iiiiiiiLiiisEbs)], .agg [(.int .i64), (.int .i64), (.int .i64), (.int .i64), (.int .i64), (.sh c_iiis), (.sh c_iis), (.sh c_isiis), (.int .i64), (.int .i64), (.sh c_i), .str, (.int .i64), (.sh c_b), (.sh c_i), (.sh c_i), (.int .i64), (.sh c_iis), (.sh c_isiis), (.int .i64), (.int .i64), (.sh c_i), .str, (.sh c_u), (.int .i64), (.sh c_iiiiiiiLiiisEbs)]], bx := [], outs := .one .bool, bxo := [], loops := [], noJoin := [], outC := [.bool], prim := none }
/-- 56: loop.example/g00289/laws.eqHard -/
noncomputable def en_eqHard : Entry := { f := 43, fn := Tryd.f43, ins := [.agg [(.int .i64), (.int .i64), (.int .i64), (.int .i64), (.sh c_iiis), (.sh c_iis), (.sh c_isiis), (.int .i64), (.int .i64), (.sh c_i), .str], .agg [(.int .i64), (.int .i64), (.int .i64), (.int .i64), (.sh c_iiis), (.sh c_iis), (.sh c_isiis), (.int .i64), (.int .i64), (.sh c_i), .str]], bx := [], outs := .one .bool, bxo := [], loops := [], noJoin := [], outC := [.bool], prim := none }
/-- 57: loop.example/g00289/laws.eqLog -/
noncomputable def en_eqLog : Entry := { f := 62, fn := Tryd.f62, ins := [.agg [(.int .i64), (.int .i64), (.sh c_iiis)], .agg [(.int .i64), (.int .i64), (.sh c_iiis)]], bx := [], outs := .one .bool, bxo := [], loops := [], noJoin := [], outC := [.bool], prim := none }
/-- 58: loop.example/g00289/laws.eqMach -/
noncomputable def en_eqMach : Entry := { f := 46, fn := Tryd.f46, ins := [.agg [(.sh c_iis), (.sh c_isiis), (.int .i64), (.int .i64), (.sh c_i), .str], .agg [(.sh c_iis), (.sh c_isiis), (.int .i64), (.int .i64), (.sh c_i), .str]], bx := [], outs := .one .bool, bxo := [], loops := [], noJoin := [], outC := [.bool], prim := none }
/-- 59: loop.example/g00289/laws.eqState -/
noncomputable def en_eqState : Entry := { f := 63, fn := Tryd.f63, ins := [.agg [(.sh c_iis), (.sh c_isiis), (.int .i64), (.int .i64)], .agg [(.sh c_iis), (.sh c_isiis), (.int .i64), (.int .i64)]], bx := [], outs := .one .bool, bxo := [], loops := [], noJoin := [], outC := [.bool], prim := none }
/-- 60: loop.example/g00289/laws.eqValS -/
noncomputable def en_eqValS : Entry := { f := 78, fn := Tryd.f78, ins := [.one (.sh c_iis), .one (.sh c_iis)], bx := [], outs := .one .bool, bxo := [], loops := [(0, lp_eqValS_0)], noJoin := [], outC := [.bool], prim := none }
/-- 61: loop.example/g00289/laws.eqVal -/
noncomputable def en_eqVal : Entry := { f := 87, fn := Tryd.f87, ins := [.agg [(.int .i64), (.int .i64), .str], .agg [(.int .i64), (.int .i64), .str]], bx := [], outs := .one .bool, bxo := [], loops := [], noJoin := [], outC := [.bool], prim := none }
/-- 62: loop.example/g00289/laws.eqCellS -/
noncomputable def en_eqCellS : Entry := { f := 79, fn := Tryd.f79, ins := [.one (.sh c_isiis), .one (.sh c_isiis)], bx := [], outs := .one .bool, bxo := [], loops := [(0, lp_eqCellS_0)], noJoin := [], outC := [.bool], prim := none }
/-- 63: loop.example/g00289/laws.eqCell -/
noncomputable def en_eqCell : Entry := { f := 88, fn := Tryd.f88, ins := [.agg [(.int .i64), .str, (.int .i64), (.int .i64), .str], .agg [(.int .i64), .str, (.int .i64), (.int .i64), .str]], bx := [], outs := .one .bool, bxo := [], loops := [], noJoin := [], outC := [.bool], prim := none }
/-- 64: loop.example/g00289/laws.eqIntS -/
noncomputable def en_eqIntS : Entry := { f := 45, fn := Tryd.f45, ins := [.one (.sh c_i), .one (.sh c_i)], bx := [], outs := .one .bool, bxo := [], loops := [(0, lp_eqIntS_0)], noJoin := [], outC := [.bool], prim := none }
/-- 65: loop.example/g00289/laws.eqBoolS -/
noncomputable def en_eqBoolS : Entry := { f := 44, fn := Tryd.f44, ins := [.one (.sh c_b), .one (.sh c_b)], bx := [], outs := .one .bool, bxo := [], loops := [(0, lp_eqBoolS_0)], noJoin := [], outC := [.bool], prim := none }
/-- 66: loop.example/g00289/laws.eqDisk -/
noncomputable def en_eqDisk : Entry := { f := 47, fn := Tryd.f47, ins := [.agg [(.sh c_u), (.int .i64)], .agg [(.sh c_u), (.int .i64)]], bx := [], outs := .one .bool, bxo := [], loops := [], noJoin := [], outC := [.bool], prim := none }
/-- 67: loop.example/g00289/laws.eqByteS -/
noncomputable def en_eqByteS : Entry := { f := 64, fn := Tryd.f64, ins := [.one (.sh c_u), .one (.sh c_u)], bx := [], outs := .one .bool, bxo := [], loops := [(0, lp_eqByteS_0)], noJoin := [], outC := [.bool], prim := none }
/-- 68: loop.example/g00289/laws.eqRpcS -/
noncomputable def en_eqRpcS : Entry := { f := 48, fn := Tryd.f48, ins := [.one (.sh c_iiiiiiiLiiisEbs), .one (.sh c_iiiiiiiLiiisEbs)], bx := [], outs := .one .bool, bxo := [], loops := [(0, lp_eqRpcS_0)], noJoin := [], outC := [.bool], prim := none }
noncomputable def tabL : List Entry := [en_FnExactRpcText, en_szRpc, en_szEntryS, en_szEntry, en_szCmd, en_toRpc, en_toEntryS, en_toEntry, en_toCmd, en_sRpcText, en_sl1In, en_sl29Nums, en_sl29Int, en_sl2Digits, en_iRpcText, en_iin, en_ispaced, en_strconv_Itoa, en_eqRpc, en_eqEntryS, en_eqEntry, en_eqCmd, en_FnExactPeerText, en_szPeer, en_szHard, en_szLog, en_szMach, en_szState, en_szValS, en_szVal, en_szCellS, en_szCell, en_szIntS, en_szBoolS, en_szDisk, en_szByteS, en_szRpcS, en_toPeer, en_toHard, en_toLog, en_toMach, en_toState, en_toValS, en_toVal, en_toCellS, en_toCell, en_toIntS, en_toBoolS, en_toDisk, en_toByteS, en_toRpcS, en_sPeerText, en_sLastOf, en_iPeerText, en_iLastOf, en_eqPeer, en_eqHard, en_eqLog, en_eqMach, en_eqState, en_eqValS, en_eqVal, en_eqCellS, en_eqCell, en_eqIntS, en_eqBoolS, en_eqDisk, en_eqByteS, en_eqRpcS]
noncomputable def tab (e : Nat) : Entry := tabOf tabL en_FnExactRpcText e
def candL : List (FuncId × List Nat) := [(3, [0]), (5, [22]), (6, [1]), (7, [9]), (8, [5]), (9, [14]), (10, [18]), (11, [29]), (13, [43]), (15, [23]), (16, [51]), (17, [37]), (18, [53]), (19, [55]), (20, [2]), (21, [10]), (22, [11]), (23, [6]), (24, [15]), (25, [16]), (26, [19]), (29, [24]), (30, [33]), (31, [32]), (32, [26]), (33, [34]), (34, [36]), (35, [52]), (36, [38]), (37, [47]), (38, [46]), (39, [40]), (40, [48]), (41, [50]), (42, [54]), (43, [56]), (44, [65]), (45, [64]), (46, [58]), (47, [66]), (48, [68]), (49, [3]), (50, [12]), (51, [7]), (52, [17]), (53, [20]), (56, [25]), (57, [27]), (58, [35]), (59, [39]), (60, [41]), (61, [49]), (62, [57]), (63, [59]), (64, [67]), (65, [4]), (66, [13]), (67, [8]), (69, [21]), (74, [28]), (75, [30]), (76, [42]), (77, [44]), (78, [60]), (79, [62]), (85, [31]), (86, [45]), (87, [61]), (88, [63])]
def cands (f : FuncId) : List Nat := lookC f candL
noncomputable def LL_szEntryS_0 (n : Nat) : Nat → List DV → Option (Sum (InterpA lp_szEntryS_0.2.2) (InterpA en_szEntryS.outC)) := loopF T (callM tab cands (D T tab cands n)) en_szEntryS n 0 lp_szEntryS_0
noncomputable def LL_toEntryS_0 (n : Nat) : Nat → List DV → Option (Sum (InterpA lp_toEntryS_0.2.2) (InterpA en_toEntryS.outC)) := loopF T (callM tab cands (D T tab cands n)) en_toEntryS n 0 lp_toEntryS_0
noncomputable def LL_sl29Nums_0 (n : Nat) : Nat → List DV → Option (Sum (InterpA lp_sl29Nums_0.2.2) (InterpA en_sl29Nums.outC)) := loopF T (callM tab cands (D T tab cands n)) en_sl29Nums n 0 lp_sl29Nums_0
noncomputable def LL_sl2Digits_0 (n : Nat) : Nat → List DV → Option (Sum (InterpA lp_sl2Digits_0.2.2) (InterpA en_sl2Digits.outC)) := loopF T (callM tab cands (D T tab cands n)) en_sl2Digits n 0 lp_sl2Digits_0
noncomputable def LL_ispaced_0 (n : Nat) : Nat → List DV → Option (Sum (InterpA lp_ispaced_0.2.2) (InterpA en_ispaced.outC)) := loopF T (callM tab cands (D T tab cands n)) en_ispaced n 0 lp_ispaced_0
noncomputable def LL_eqEntryS_0 (n : Nat) : Nat → List DV → Option (Sum (InterpA lp_eqEntryS_0.2.2) (InterpA en_eqEntryS.outC)) := loopF T (callM tab cands (D T tab cands n)) en_eqEntryS n 0 lp_eqEntryS_0
noncomputable def LL_szValS_0 (n : Nat) : Nat → List DV → Option (Sum (InterpA lp_szValS_0.2.2) (InterpA en_szValS.outC)) := loopF T (callM tab cands (D T tab cands n)) en_szValS n 0 lp_szValS_0
noncomputable def LL_szCellS_0 (n : Nat) : Nat → List DV → Option (Sum (InterpA lp_szCellS_0.2.2) (InterpA en_szCellS.outC)) := loopF T (callM tab cands (D T tab cands n)) en_szCellS n 0 lp_szCellS_0
noncomputable def LL_szRpcS_0 (n : Nat) : Nat → List DV → Option (Sum (InterpA lp_szRpcS_0.2.2) (InterpA en_szRpcS.outC)) := loopF T (callM tab cands (D T tab cands n)) en_szRpcS n 0 lp_szRpcS_0
noncomputable def LL_toValS_0 (n : Nat) : Nat → List DV → Option (Sum (InterpA lp_toValS_0.2.2) (InterpA en_toValS.outC)) := loopF T (callM tab cands (D T tab cands n)) en_toValS n 0 lp_toValS_0
noncomputable def LL_toCellS_0 (n : Nat) : Nat → List DV → Option (Sum (InterpA lp_toCellS_0.2.2) (InterpA en_toCellS.outC)) := loopF T (callM tab cands (D T tab cands n)) en_toCellS n 0 lp_toCellS_0
noncomputable def LL_toIntS_0 (n : Nat) : Nat → List DV → Option (Sum (InterpA lp_toIntS_0.2.2) (InterpA en_toIntS.outC)) := loopF T (callM tab cands (D T tab cands n)) en_toIntS n 0 lp_toIntS_0
noncomputable def LL_toBoolS_0 (n : Nat) : Nat → List DV → Option (Sum (InterpA lp_toBoolS_0.2.2) (InterpA en_toBoolS.outC)) := loopF T (callM tab cands (D T tab cands n)) en_toBoolS n 0 lp_toBoolS_0
noncomputable def LL_toByteS_0 (n : Nat) : Nat → List DV → Option (Sum (InterpA lp_toByteS_0.2.2) (InterpA en_toByteS.outC)) := loopF T (callM tab cands (D T tab cands n)) en_toByteS n 0 lp_toByteS_0
noncomputable def LL_toRpcS_0 (n : Nat) : Nat → List DV → Option (Sum (InterpA lp_toRpcS_0.2.2) (InterpA en_toRpcS.outC)) := loopF T (callM tab cands (D T tab cands n)) en_toRpcS n 0 lp_toRpcS_0
noncomputable def LL_eqValS_0 (n : Nat) : Nat → List DV → Option (Sum (InterpA lp_eqValS_0.2.2) (InterpA en_eqValS.outC)) := loopF T (callM tab cands (D T tab cands n)) en_eqValS n 0 lp_eqValS_0
noncomputable def LL_eqCellS_0 (n : Nat) : Nat → List DV → Option (Sum (InterpA lp_eqCellS_0.2.2) (InterpA en_eqCellS.outC)) := loopF T (callM tab cands (D T tab cands n)) en_eqCellS n 0 lp_eqCellS_0
noncomputable def LL_eqIntS_0 (n : Nat) : Nat → List DV → Option (Sum (InterpA lp_eqIntS_0.2.2) (InterpA en_eqIntS.outC)) := loopF T (callM tab cands (D T tab cands n)) en_eqIntS n 0 lp_eqIntS_0
noncomputable def LL_eqBoolS_0 (n : Nat) : Nat → List DV → Option (Sum (InterpA lp_eqBoolS_0.2.2) (InterpA en_eqBoolS.outC)) := loopF T (callM tab cands (D T tab cands n)) en_eqBoolS n 0 lp_eqBoolS_0
noncomputable def LL_eqByteS_0 (n : Nat) : Nat → List DV → Option (Sum (InterpA lp_eqByteS_0.2.2) (InterpA en_eqByteS.outC)) := loopF T (callM tab cands (D T tab cands n)) en_eqByteS n 0 lp_eqByteS_0
noncomputable def LL_eqRpcS_0 (n : Nat) : Nat → List DV → Option (Sum (InterpA lp_eqRpcS_0.2.2) (InterpA en_eqRpcS.outC)) := loopF T (callM tab cands (D T tab cands n)) en_eqRpcS n 0 lp_eqRpcS_0
abbrev i_FnExactRpcText : Nat := 0
abbrev i_szRpc : Nat := 1
abbrev i_szEntryS : Nat := 2
abbrev i_szEntry : Nat := 3
abbrev i_szCmd : Nat := 4
abbrev i_toRpc : Nat := 5
abbrev i_toEntryS : Nat := 6
abbrev i_toEntry : Nat := 7
abbrev i_toCmd : Nat := 8
abbrev i_sRpcText : Nat := 9
abbrev i_sl1In : Nat := 10
abbrev i_sl29Nums : Nat := 11
abbrev i_sl29Int : Nat := 12
abbrev i_sl2Digits : Nat := 13
abbrev i_iRpcText : Nat := 14
abbrev i_iin : Nat := 15
abbrev i_ispaced : Nat := 16
abbrev i_strconv_Itoa : Nat := 17
abbrev i_eqRpc : Nat := 18
abbrev i_eqEntryS : Nat := 19
abbrev i_eqEntry : Nat := 20
abbrev i_eqCmd : Nat := 21
abbrev i_FnExactPeerText : Nat := 22
abbrev i_szPeer : Nat := 23
abbrev i_szHard : Nat := 24
abbrev i_szLog : Nat := 25
abbrev i_szMach : Nat := 26
abbrev i_szState : Nat := 27
abbrev i_szValS : Nat := 28
abbrev i_szVal : Nat := 29
abbrev i_szCellS : Nat := 30
abbrev i_szCell : Nat := 31
abbrev i_szIntS : Nat := 32
abbrev i_szBoolS : Nat := 33
abbrev i_szDisk : Nat := 34
abbrev i_szByteS : Nat := 35
abbrev i_szRpcS : Nat := 36
abbrev i_toPeer : Nat := 37
abbrev i_toHard : Nat := 38
abbrev i_toLog : Nat := 39
abbrev i_toMach : Nat := 40
abbrev i_toState : Nat := 41
abbrev i_toValS : Nat := 42
abbrev i_toVal : Nat := 43
abbrev i_toCellS : Nat := 44
abbrev i_toCell : Nat := 45
abbrev i_toIntS : Nat := 46
abbrev i_toBoolS : Nat := 47
abbrev i_toDisk : Nat := 48
abbrev i_toByteS : Nat := 49
abbrev i_toRpcS : Nat := 50
abbrev i_sPeerText : Nat := 51
abbrev i_sLastOf : Nat := 52
abbrev i_iPeerText : Nat := 53
abbrev i_iLastOf : Nat := 54
abbrev i_eqPeer : Nat := 55
abbrev i_eqHard : Nat := 56
abbrev i_eqLog : Nat := 57
abbrev i_eqMach : Nat := 58
abbrev i_eqState : Nat := 59
abbrev i_eqValS : Nat := 60
abbrev i_eqVal : Nat := 61
abbrev i_eqCellS : Nat := 62
abbrev i_eqCell : Nat := 63
abbrev i_eqIntS : Nat := 64
abbrev i_eqBoolS : Nat := 65
abbrev i_eqDisk : Nat := 66
abbrev i_eqByteS : Nat := 67
abbrev i_eqRpcS : Nat := 68
theorem en_FnExactRpcText_ok : EntOk Tryd.prog en_FnExactRpcText := ⟨by kernel_rfl, by kernel_rfl, by kernel_rfl, by kernel_rfl, by kernel_rfl⟩
theorem en_szRpc_ok : EntOk Tryd.prog en_szRpc := ⟨by kernel_rfl, by kernel_rfl, by kernel_rfl, by kernel_rfl, by kernel_rfl⟩
theorem en_szEntryS_ok : EntOk Tryd.prog en_szEntryS := ⟨by kernel_rfl, by kernel_rfl, by kernel_rfl, by kernel_rfl, by kernel_rfl⟩
theorem en_szEntry_ok : EntOk Tryd.prog en_szEntry := ⟨by kernel_rfl, by kernel_rfl, by kernel_rfl, by kernel_rfl, by kernel_rfl⟩
theorem en_szCmd_ok : EntOk Tryd.prog en_szCmd := ⟨by kernel_rfl, by kernel_rfl, by kernel_rfl, by kernel_rfl, by kernel_rfl⟩
theorem en_toRpc_ok : EntOk Tryd.prog en_toRpc := ⟨by kernel_rfl, by kernel_rfl, by kernel_rfl, by kernel_rfl, by kernel_rfl⟩
theorem en_toEntryS_ok : EntOk Tryd.prog en_toEntryS := ⟨by kernel_rfl, by kernel_rfl, by kernel_rfl, by kernel_rfl, by kernel_rfl⟩
theorem en_toEntry_ok : EntOk Tryd.prog en_toEntry := ⟨by kernel_rfl, by kernel_rfl, by kernel_rfl, by kernel_rfl, by kernel_rfl⟩
theorem en_toCmd_ok : EntOk Tryd.prog en_toCmd := ⟨by kernel_rfl, by kernel_rfl, by kernel_rfl, by kernel_rfl, by kernel_rfl⟩
theorem en_sRpcText_ok : EntOk Tryd.prog en_sRpcText := ⟨by kernel_rfl, by kernel_rfl, by kernel_rfl, by kernel_rfl, by kernel_rfl⟩
theorem en_sl1In_ok : EntOk Tryd.prog en_sl1In := ⟨by kernel_rfl, by kernel_rfl, by kernel_rfl, by kernel_rfl, by kernel_rfl⟩
theorem en_sl29Nums_ok : EntOk Tryd.prog en_sl29Nums := ⟨by kernel_rfl, by kernel_rfl, by kernel_rfl, by kernel_rfl, by kernel_rfl⟩
theorem en_sl29Int_ok : EntOk Tryd.prog en_sl29Int := ⟨by kernel_rfl, by kernel_rfl, by kernel_rfl, by kernel_rfl, by kernel_rfl⟩
theorem en_sl2Digits_ok : EntOk Tryd.prog en_sl2Digits := ⟨by kernel_rfl, by kernel_rfl, by kernel_rfl, by kernel_rfl, by kernel_rfl⟩
theorem en_iRpcText_ok : EntOk Tryd.prog en_iRpcText := ⟨by kernel_rfl, by kernel_rfl, by kernel_rfl, by kernel_rfl, by kernel_rfl⟩
theorem en_iin_ok : EntOk Tryd.prog en_iin := ⟨by kernel_rfl, by kernel_rfl, by kernel_rfl, by kernel_rfl, by kernel_rfl⟩
theorem en_ispaced_ok : EntOk Tryd.prog en_ispaced := ⟨by kernel_rfl, by kernel_rfl, by kernel_rfl, by kernel_rfl, by kernel_rfl⟩
theorem en_strconv_Itoa_ok : EntOk Tryd.prog en_strconv_Itoa := ⟨by kernel_rfl, by kernel_rfl, by kernel_rfl, by kernel_rfl, by kernel_rfl⟩
theorem en_eqRpc_ok : EntOk Tryd.prog en_eqRpc := ⟨by kernel_rfl, by kernel_rfl, by kernel_rfl, by kernel_rfl, by kernel_rfl⟩
theorem en_eqEntryS_ok : EntOk Tryd.prog en_eqEntryS := ⟨by kernel_rfl, by kernel_rfl, by kernel_rfl, by kernel_rfl, by kernel_rfl⟩
theorem en_eqEntry_ok : EntOk Tryd.prog en_eqEntry := ⟨by kernel_rfl, by kernel_rfl, by kernel_rfl, by kernel_rfl, by kernel_rfl⟩
theorem en_eqCmd_ok : EntOk Tryd.prog en_eqCmd := ⟨by kernel_rfl, by kernel_rfl, by kernel_rfl, by kernel_rfl, by kernel_rfl⟩
theorem en_FnExactPeerText_ok : EntOk Tryd.prog en_FnExactPeerText := ⟨by kernel_rfl, by kernel_rfl, by kernel_rfl, by kernel_rfl, by kernel_rfl⟩
theorem en_szPeer_ok : EntOk Tryd.prog en_szPeer := ⟨by kernel_rfl, by kernel_rfl, by kernel_rfl, by kernel_rfl, by kernel_rfl⟩
theorem en_szHard_ok : EntOk Tryd.prog en_szHard := ⟨by kernel_rfl, by kernel_rfl, by kernel_rfl, by kernel_rfl, by kernel_rfl⟩
theorem en_szLog_ok : EntOk Tryd.prog en_szLog := ⟨by kernel_rfl, by kernel_rfl, by kernel_rfl, by kernel_rfl, by kernel_rfl⟩
theorem en_szMach_ok : EntOk Tryd.prog en_szMach := ⟨by kernel_rfl, by kernel_rfl, by kernel_rfl, by kernel_rfl, by kernel_rfl⟩
theorem en_szState_ok : EntOk Tryd.prog en_szState := ⟨by kernel_rfl, by kernel_rfl, by kernel_rfl, by kernel_rfl, by kernel_rfl⟩
theorem en_szValS_ok : EntOk Tryd.prog en_szValS := ⟨by kernel_rfl, by kernel_rfl, by kernel_rfl, by kernel_rfl, by kernel_rfl⟩
theorem en_szVal_ok : EntOk Tryd.prog en_szVal := ⟨by kernel_rfl, by kernel_rfl, by kernel_rfl, by kernel_rfl, by kernel_rfl⟩
theorem en_szCellS_ok : EntOk Tryd.prog en_szCellS := ⟨by kernel_rfl, by kernel_rfl, by kernel_rfl, by kernel_rfl, by kernel_rfl⟩
theorem en_szCell_ok : EntOk Tryd.prog en_szCell := ⟨by kernel_rfl, by kernel_rfl, by kernel_rfl, by kernel_rfl, by kernel_rfl⟩
theorem en_szIntS_ok : EntOk Tryd.prog en_szIntS := ⟨by kernel_rfl, by kernel_rfl, by kernel_rfl, by kernel_rfl, by kernel_rfl⟩
theorem en_szBoolS_ok : EntOk Tryd.prog en_szBoolS := ⟨by kernel_rfl, by kernel_rfl, by kernel_rfl, by kernel_rfl, by kernel_rfl⟩
theorem en_szDisk_ok : EntOk Tryd.prog en_szDisk := ⟨by kernel_rfl, by kernel_rfl, by kernel_rfl, by kernel_rfl, by kernel_rfl⟩
theorem en_szByteS_ok : EntOk Tryd.prog en_szByteS := ⟨by kernel_rfl, by kernel_rfl, by kernel_rfl, by kernel_rfl, by kernel_rfl⟩
theorem en_szRpcS_ok : EntOk Tryd.prog en_szRpcS := ⟨by kernel_rfl, by kernel_rfl, by kernel_rfl, by kernel_rfl, by kernel_rfl⟩
theorem en_toPeer_ok : EntOk Tryd.prog en_toPeer := ⟨by kernel_rfl, by kernel_rfl, by kernel_rfl, by kernel_rfl, by kernel_rfl⟩
theorem en_toHard_ok : EntOk Tryd.prog en_toHard := ⟨by kernel_rfl, by kernel_rfl, by kernel_rfl, by kernel_rfl, by kernel_rfl⟩
theorem en_toLog_ok : EntOk Tryd.prog en_toLog := ⟨by kernel_rfl, by kernel_rfl, by kernel_rfl, by kernel_rfl, by kernel_rfl⟩
theorem en_toMach_ok : EntOk Tryd.prog en_toMach := ⟨by kernel_rfl, by kernel_rfl, by kernel_rfl, by kernel_rfl, by kernel_rfl⟩
theorem en_toState_ok : EntOk Tryd.prog en_toState := ⟨by kernel_rfl, by kernel_rfl, by kernel_rfl, by kernel_rfl, by kernel_rfl⟩
theorem en_toValS_ok : EntOk Tryd.prog en_toValS := ⟨by kernel_rfl, by kernel_rfl, by kernel_rfl, by kernel_rfl, by kernel_rfl⟩
theorem en_toVal_ok : EntOk Tryd.prog en_toVal := ⟨by kernel_rfl, by kernel_rfl, by kernel_rfl, by kernel_rfl, by kernel_rfl⟩
theorem en_toCellS_ok : EntOk Tryd.prog en_toCellS := ⟨by kernel_rfl, by kernel_rfl, by kernel_rfl, by kernel_rfl, by kernel_rfl⟩
theorem en_toCell_ok : EntOk Tryd.prog en_toCell := ⟨by kernel_rfl, by kernel_rfl, by kernel_rfl, by kernel_rfl, by kernel_rfl⟩
theorem en_toIntS_ok : EntOk Tryd.prog en_toIntS := ⟨by kernel_rfl, by kernel_rfl, by kernel_rfl, by kernel_rfl, by kernel_rfl⟩
theorem en_toBoolS_ok : EntOk Tryd.prog en_toBoolS := ⟨by kernel_rfl, by kernel_rfl, by kernel_rfl, by kernel_rfl, by kernel_rfl⟩
theorem en_toDisk_ok : EntOk Tryd.prog en_toDisk := ⟨by kernel_rfl, by kernel_rfl, by kernel_rfl, by kernel_rfl, by kernel_rfl⟩
theorem en_toByteS_ok : EntOk Tryd.prog en_toByteS := ⟨by kernel_rfl, by kernel_rfl, by kernel_rfl, by kernel_rfl, by kernel_rfl⟩
theorem en_toRpcS_ok : EntOk Tryd.prog en_toRpcS := ⟨by kernel_rfl, by kernel_rfl, by kernel_rfl, by kernel_rfl, by kernel_rfl⟩
theorem en_sPeerText_ok : EntOk Tryd.prog en_sPeerText := ⟨by kernel_rfl, by kernel_rfl, by kernel_rfl, by kernel_rfl, by kernel_rfl⟩
theorem en_sLastOf_ok : EntOk Tryd.prog en_sLastOf := ⟨by kernel_rfl, by kernel_rfl, by kernel_rfl, by kernel_rfl, by kernel_rfl⟩
theorem en_iPeerText_ok : EntOk Tryd.prog en_iPeerText := ⟨by kernel_rfl, by kernel_rfl, by kernel_rfl, by kernel_rfl, by kernel_rfl⟩
theorem en_iLastOf_ok : EntOk Tryd.prog en_iLastOf := ⟨by kernel_rfl, by kernel_rfl, by kernel_rfl, by kernel_rfl, by kernel_rfl⟩
theorem en_eqPeer_ok : EntOk Tryd.prog en_eqPeer := ⟨by kernel_rfl, by kernel_rfl, by kernel_rfl, by kernel_rfl, by kernel_rfl⟩
theorem en_eqHard_ok : EntOk Tryd.prog en_eqHard := ⟨by kernel_rfl, by kernel_rfl, by kernel_rfl, by kernel_rfl, by kernel_rfl⟩
theorem en_eqLog_ok : EntOk Tryd.prog en_eqLog := ⟨by kernel_rfl, by kernel_rfl, by kernel_rfl, by kernel_rfl, by kernel_rfl⟩
theorem en_eqMach_ok : EntOk Tryd.prog en_eqMach := ⟨by kernel_rfl, by kernel_rfl, by kernel_rfl, by kernel_rfl, by kernel_rfl⟩
theorem en_eqState_ok : EntOk Tryd.prog en_eqState := ⟨by kernel_rfl, by kernel_rfl, by kernel_rfl, by kernel_rfl, by kernel_rfl⟩
theorem en_eqValS_ok : EntOk Tryd.prog en_eqValS := ⟨by kernel_rfl, by kernel_rfl, by kernel_rfl, by kernel_rfl, by kernel_rfl⟩
theorem en_eqVal_ok : EntOk Tryd.prog en_eqVal := ⟨by kernel_rfl, by kernel_rfl, by kernel_rfl, by kernel_rfl, by kernel_rfl⟩
theorem en_eqCellS_ok : EntOk Tryd.prog en_eqCellS := ⟨by kernel_rfl, by kernel_rfl, by kernel_rfl, by kernel_rfl, by kernel_rfl⟩
theorem en_eqCell_ok : EntOk Tryd.prog en_eqCell := ⟨by kernel_rfl, by kernel_rfl, by kernel_rfl, by kernel_rfl, by kernel_rfl⟩
theorem en_eqIntS_ok : EntOk Tryd.prog en_eqIntS := ⟨by kernel_rfl, by kernel_rfl, by kernel_rfl, by kernel_rfl, by kernel_rfl⟩
theorem en_eqBoolS_ok : EntOk Tryd.prog en_eqBoolS := ⟨by kernel_rfl, by kernel_rfl, by kernel_rfl, by kernel_rfl, by kernel_rfl⟩
theorem en_eqDisk_ok : EntOk Tryd.prog en_eqDisk := ⟨by kernel_rfl, by kernel_rfl, by kernel_rfl, by kernel_rfl, by kernel_rfl⟩
theorem en_eqByteS_ok : EntOk Tryd.prog en_eqByteS := ⟨by kernel_rfl, by kernel_rfl, by kernel_rfl, by kernel_rfl, by kernel_rfl⟩
theorem en_eqRpcS_ok : EntOk Tryd.prog en_eqRpcS := ⟨by kernel_rfl, by kernel_rfl, by kernel_rfl, by kernel_rfl, by kernel_rfl⟩
theorem tys_ok : tysB Tryd.prog tys = true := by kernel_rfl
theorem ents_ok : Ents Tryd.prog tabL := .cons en_FnExactRpcText_ok (.cons en_szRpc_ok (.cons en_szEntryS_ok (.cons en_szEntry_ok (.cons en_szCmd_ok (.cons en_toRpc_ok (.cons en_toEntryS_ok (.cons en_toEntry_ok (.cons en_toCmd_ok (.cons en_sRpcText_ok (.cons en_sl1In_ok (.cons en_sl29Nums_ok (.cons en_sl29Int_ok (.cons en_sl2Digits_ok (.cons en_iRpcText_ok (.cons en_iin_ok (.cons en_ispaced_ok (.cons en_strconv_Itoa_ok (.cons en_eqRpc_ok (.cons en_eqEntryS_ok (.cons en_eqEntry_ok (.cons en_eqCmd_ok (.cons en_FnExactPeerText_ok (.cons en_szPeer_ok (.cons en_szHard_ok (.cons en_szLog_ok (.cons en_szMach_ok (.cons en_szState_ok (.cons en_szValS_ok (.cons en_szVal_ok (.cons en_szCellS_ok (.cons en_szCell_ok (.cons en_szIntS_ok (.cons en_szBoolS_ok (.cons en_szDisk_ok (.cons en_szByteS_ok (.cons en_szRpcS_ok (.cons en_toPeer_ok (.cons en_toHard_ok (.cons en_toLog_ok (.cons en_toMach_ok (.cons en_toState_ok (.cons en_toValS_ok (.cons en_toVal_ok (.cons en_toCellS_ok (.cons en_toCell_ok (.cons en_toIntS_ok (.cons en_toBoolS_ok (.cons en_toDisk_ok (.cons en_toByteS_ok (.cons en_toRpcS_ok (.cons en_sPeerText_ok (.cons en_sLastOf_ok (.cons en_iPeerText_ok (.cons en_iLastOf_ok (.cons en_eqPeer_ok (.cons en_eqHard_ok (.cons en_eqLog_ok (.cons en_eqMach_ok (.cons en_eqState_ok (.cons en_eqValS_ok (.cons en_eqVal_ok (.cons en_eqCellS_ok (.cons en_eqCell_ok (.cons en_eqIntS_ok (.cons en_eqBoolS_ok (.cons en_eqDisk_ok (.cons en_eqByteS_ok (.cons en_eqRpcS_ok Ents.nil))))))))))))))))))))))))))))))))))))))))))))))))))))))))))))))))))))
end Go.Proofs.YtmabfdnconccnaaDoor
