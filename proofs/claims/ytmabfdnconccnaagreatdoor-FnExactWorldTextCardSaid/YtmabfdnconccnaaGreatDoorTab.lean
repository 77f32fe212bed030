/- Entries of the functions, and the closed facts about them. -/
import Derived.Test.YtmabfdnconccnaaGreatDoorEv3
import Derived.Test.YtmabfdnconccnaaGreatDoorProg
import Derived.KernelRfl
namespace Go.Proofs.YtmabfdnconccnaaGreatDoor
open Go Go.Ev
@[reducible] def c_s : CT := (.sl (.one .str))
@[reducible] def c_b : CT := (.sl (.one .bool))
@[reducible] def c_u : CT := (.sl (.one (.int .u8)))
@[reducible] def c_i : CT := (.sl (.one (.int .i64)))
@[reducible] def c_iis : CT := (.sl (.cons (.int .i64) (.cons (.int .i64) (.one .str))))
@[reducible] def c_iiis : CT := (.sl (.cons (.int .i64) (.cons (.int .i64) (.cons (.int .i64) (.one .str)))))
@[reducible] def c_isiis : CT := (.sl (.cons (.int .i64) (.cons .str (.cons (.int .i64) (.cons (.int .i64) (.one .str))))))
@[reducible] def c_iiiiiiiLiiisEbs : CT := (.sl (.cons (.int .i64) (.cons (.int .i64) (.cons (.int .i64) (.cons (.int .i64) (.cons (.int .i64) (.cons (.int .i64) (.cons (.int .i64) (.cons c_iiis (.cons .bool (.one .str)))))))))))
@[reducible] def c_iiiiiLiiisELiisELisiisEiiLiEsiLbELiELiEiLiisELisiisEiiLiEsLuEiLiiiiiiiLiiisEbsE : CT := (.sl (.cons (.int .i64) (.cons (.int .i64) (.cons (.int .i64) (.cons (.int .i64) (.cons (.int .i64) (.cons c_iiis (.cons c_iis (.cons c_isiis (.cons (.int .i64) (.cons (.int .i64) (.cons c_i (.cons .str (.cons (.int .i64) (.cons c_b (.cons c_i (.cons c_i (.cons (.int .i64) (.cons c_iis (.cons c_isiis (.cons (.int .i64) (.cons (.int .i64) (.cons c_i (.cons .str (.cons c_u (.cons (.int .i64) (.one c_iiiiiiiLiiisEbs)))))))))))))))))))))))))))
abbrev t_i : Type := List Int
abbrev t_b : Type := List Bool
abbrev t_s : Type := List Bytes
abbrev t_u : Type := List UInt8
abbrev t_iis : Type := List (Int × (Int × Bytes))
abbrev t_iiis : Type := List (Int × (Int × (Int × Bytes)))
abbrev t_isiis : Type := List (Int × (Bytes × (Int × (Int × Bytes))))
abbrev t_iiiiiiiLiiisEbs : Type := List (Int × (Int × (Int × (Int × (Int × (Int × (Int × (t_iiis × (Bool × Bytes)))))))))
abbrev t_iiiiiLiiisELiisELisiisEiiLiEsiLbELiELiEiLiisELisiisEiiLiEsLuEiLiiiiiiiLiiisEbsE : Type := List (Int × (Int × (Int × (Int × (Int × (t_iiis × (t_iis × (t_isiis × (Int × (Int × (t_i × (Bytes × (Int × (t_b × (t_i × (t_i × (Int × (t_iis × (t_isiis × (Int × (Int × (t_i × (Bytes × (t_u × (Int × t_iiiiiiiLiiisEbs)))))))))))))))))))))))))
def tys : List (TypeId × TyI) := [
  (3, ⟨.int .i64, 1, 8, [.i .i64 0], some (.one (.int .i64)), false⟩),
  (4, ⟨.bool, 1, 1, [.b false], some (.one .bool), false⟩),
  (5, ⟨.int .u8, 1, 1, [.i .u8 0], some (.one (.int .u8)), false⟩),
  (9, ⟨.str, 1, 16, [.s []], some (.one .str), false⟩),
  (22, ⟨.slice 9, 1, 24, [.nl], some (.one c_s), false⟩),
  (23, ⟨.slice 144, 1, 24, [.nl], some (.one c_iis), false⟩),
  (25, ⟨.struct [(0, 22), (1, 22), (2, 23), (3, 23)], 4, 96, [.nl, .nl, .nl, .nl], some (.cons c_s (.cons c_s (.cons c_iis (.one c_iis)))), false⟩),
  (26, ⟨.slice 109, 1, 24, [.nl], some (.one c_iiiiiLiiisELiisELisiisEiiLiEsiLbELiELiEiLiisELisiisEiiLiEsLuEiLiiiiiiiLiiisEbsE), false⟩),
  (27, ⟨.slice 112, 1, 24, [.nl], some (.one c_iiiiiiiLiiisEbs), false⟩),
  (29, ⟨.struct [(0, 3), (1, 9)], 2, 24, [.i .i64 0, .s []], some (.cons (.int .i64) (.one .str)), false⟩),
  (30, ⟨.slice 3, 1, 24, [.nl], some (.one c_i), false⟩),
  (31, ⟨.slice 115, 1, 24, [.nl], some (.one c_iis), false⟩),
  (33, ⟨.struct [(0, 25), (4, 3), (5, 26), (6, 27), (7, 29), (9, 30), (10, 30), (11, 31)], 12, 248, [.nl, .nl, .nl, .nl, .i .i64 0, .nl, .nl, .i .i64 0, .s [], .nl, .nl, .nl], some (.cons c_s (.cons c_s (.cons c_iis (.cons c_iis (.cons (.int .i64) (.cons c_iiiiiLiiisELiisELisiisEiiLiEsiLbELiELiEiLiisELisiisEiiLiEsLuEiLiiiiiiiLiiisEbsE (.cons c_iiiiiiiLiiisEbs (.cons (.int .i64) (.cons .str (.cons c_i (.cons c_i (.one c_iis)))))))))))), false⟩),
  (36, ⟨.slice 150, 1, 24, [.nl], some (.one c_iis), false⟩),
  (38, ⟨.struct [(0, 22), (1, 22), (2, 36), (3, 36)], 4, 96, [.nl, .nl, .nl, .nl], some (.cons c_s (.cons c_s (.cons c_iis (.one c_iis)))), false⟩),
  (39, ⟨.slice 76, 1, 24, [.nl], some (.one c_iiiiiLiiisELiisELisiisEiiLiEsiLbELiELiEiLiisELisiisEiiLiEsLuEiLiiiiiiiLiiisEbsE), false⟩),
  (40, ⟨.slice 121, 1, 24, [.nl], some (.one c_iiiiiiiLiiisEbs), false⟩),
  (41, ⟨.struct [(0, 3), (1, 9)], 2, 24, [.i .i64 0, .s []], some (.cons (.int .i64) (.one .str)), false⟩),
  (42, ⟨.slice 123, 1, 24, [.nl], some (.one c_iis), false⟩),
  (44, ⟨.struct [(0, 38), (4, 3), (5, 39), (6, 40), (7, 41), (9, 30), (10, 30), (11, 42)], 12, 248, [.nl, .nl, .nl, .nl, .i .i64 0, .nl, .nl, .i .i64 0, .s [], .nl, .nl, .nl], some (.cons c_s (.cons c_s (.cons c_iis (.cons c_iis (.cons (.int .i64) (.cons c_iiiiiLiiisELiisELisiisEiiLiEsiLbELiELiEiLiisELisiisEiiLiEsLuEiLiiiiiiiLiiisEbsE (.cons c_iiiiiiiLiiisEbs (.cons (.int .i64) (.cons .str (.cons c_i (.cons c_i (.one c_iis)))))))))))), false⟩),
  (60, ⟨.slice 141, 1, 24, [.nl], some (.one c_iiis), false⟩),
  (62, ⟨.struct [(0, 3), (1, 3), (2, 60)], 3, 40, [.i .i64 0, .i .i64 0, .nl], some (.cons (.int .i64) (.cons (.int .i64) (.one c_iiis))), false⟩),
  (63, ⟨.slice 230, 1, 24, [.nl], some (.one c_iis), false⟩),
  (64, ⟨.slice 232, 1, 24, [.nl], some (.one c_isiis), false⟩),
  (66, ⟨.struct [(0, 63), (1, 64), (2, 3), (3, 3)], 4, 64, [.nl, .nl, .i .i64 0, .i .i64 0], some (.cons c_iis (.cons c_isiis (.cons (.int .i64) (.one (.int .i64))))), false⟩),
  (68, ⟨.struct [(0, 66), (4, 30), (5, 9)], 6, 104, [.nl, .nl, .i .i64 0, .i .i64 0, .nl, .s []], some (.cons c_iis (.cons c_isiis (.cons (.int .i64) (.cons (.int .i64) (.cons c_i (.one .str)))))), false⟩),
  (70, ⟨.struct [(0, 3), (1, 3), (2, 62), (5, 68)], 11, 160, [.i .i64 0, .i .i64 0, .i .i64 0, .i .i64 0, .nl, .nl, .nl, .i .i64 0, .i .i64 0, .nl, .s []], some (.cons (.int .i64) (.cons (.int .i64) (.cons (.int .i64) (.cons (.int .i64) (.cons c_iiis (.cons c_iis (.cons c_isiis (.cons (.int .i64) (.cons (.int .i64) (.cons c_i (.one .str))))))))))), false⟩),
  (71, ⟨.slice 4, 1, 24, [.nl], some (.one c_b), false⟩),
  (72, ⟨.slice 5, 1, 24, [.nl], some (.one c_u), false⟩),
  (74, ⟨.struct [(0, 72), (1, 3)], 2, 32, [.nl, .i .i64 0], some (.cons c_u (.one (.int .i64))), false⟩),
  (76, ⟨.struct [(0, 3), (1, 70), (12, 3), (13, 71), (14, 30), (15, 30), (16, 3), (17, 68), (23, 74), (25, 40)], 26, 416, [.i .i64 0, .i .i64 0, .i .i64 0, .i .i64 0, .i .i64 0, .nl, .nl, .nl, .i .i64 0, .i .i64 0, .nl, .s [], .i .i64 0, .nl, .nl, .nl, .i .i64 0, .nl, .nl, .i .i64 0, .i .i64 0, .nl, .s [], .nl, .i .i64 0, .nl], some (.cons (.int .i64) (.cons (.int .i64) (.cons (.int .i64) (.cons (.int .i64) (.cons (.int .i64) (.cons c_iiis (.cons c_iis (.cons c_isiis (.cons (.int .i64) (.cons (.int .i64) (.cons c_i (.cons .str (.cons (.int .i64) (.cons c_b (.cons c_i (.cons c_i (.cons (.int .i64) (.cons c_iis (.cons c_isiis (.cons (.int .i64) (.cons (.int .i64) (.cons c_i (.cons .str (.cons c_u (.cons (.int .i64) (.one c_iiiiiiiLiiisEbs)))))))))))))))))))))))))), false⟩),
  (96, ⟨.slice 182, 1, 24, [.nl], some (.one c_iiis), false⟩),
  (98, ⟨.struct [(0, 3), (1, 3), (2, 96)], 3, 40, [.i .i64 0, .i .i64 0, .nl], some (.cons (.int .i64) (.cons (.int .i64) (.one c_iiis))), false⟩),
  (99, ⟨.slice 243, 1, 24, [.nl], some (.one c_iis), false⟩),
  (100, ⟨.slice 246, 1, 24, [.nl], some (.one c_isiis), false⟩),
  (102, ⟨.struct [(0, 99), (1, 100), (2, 3), (3, 3)], 4, 64, [.nl, .nl, .i .i64 0, .i .i64 0], some (.cons c_iis (.cons c_isiis (.cons (.int .i64) (.one (.int .i64))))), false⟩),
  (104, ⟨.struct [(0, 102), (4, 30), (5, 9)], 6, 104, [.nl, .nl, .i .i64 0, .i .i64 0, .nl, .s []], some (.cons c_iis (.cons c_isiis (.cons (.int .i64) (.cons (.int .i64) (.cons c_i (.one .str)))))), false⟩),
  (106, ⟨.struct [(0, 3), (1, 3), (2, 98), (5, 104)], 11, 160, [.i .i64 0, .i .i64 0, .i .i64 0, .i .i64 0, .nl, .nl, .nl, .i .i64 0, .i .i64 0, .nl, .s []], some (.cons (.int .i64) (.cons (.int .i64) (.cons (.int .i64) (.cons (.int .i64) (.cons c_iiis (.cons c_iis (.cons c_isiis (.cons (.int .i64) (.cons (.int .i64) (.cons c_i (.one .str))))))))))), false⟩),
  (107, ⟨.struct [(0, 72), (1, 3)], 2, 32, [.nl, .i .i64 0], some (.cons c_u (.one (.int .i64))), false⟩),
  (109, ⟨.struct [(0, 3), (1, 106), (12, 3), (13, 71), (14, 30), (15, 30), (16, 3), (17, 104), (23, 107), (25, 27)], 26, 416, [.i .i64 0, .i .i64 0, .i .i64 0, .i .i64 0, .i .i64 0, .nl, .nl, .nl, .i .i64 0, .i .i64 0, .nl, .s [], .i .i64 0, .nl, .nl, .nl, .i .i64 0, .nl, .nl, .i .i64 0, .i .i64 0, .nl, .s [], .nl, .i .i64 0, .nl], some (.cons (.int .i64) (.cons (.int .i64) (.cons (.int .i64) (.cons (.int .i64) (.cons (.int .i64) (.cons c_iiis (.cons c_iis (.cons c_isiis (.cons (.int .i64) (.cons (.int .i64) (.cons c_i (.cons .str (.cons (.int .i64) (.cons c_b (.cons c_i (.cons c_i (.cons (.int .i64) (.cons c_iis (.cons c_isiis (.cons (.int .i64) (.cons (.int .i64) (.cons c_i (.cons .str (.cons c_u (.cons (.int .i64) (.one c_iiiiiiiLiiisEbs)))))))))))))))))))))))))), false⟩),
  (112, ⟨.struct [(0, 3), (1, 3), (2, 3), (3, 3), (4, 3), (5, 3), (6, 3), (7, 96), (8, 4), (9, 9)], 10, 104, [.i .i64 0, .i .i64 0, .i .i64 0, .i .i64 0, .i .i64 0, .i .i64 0, .i .i64 0, .nl, .b false, .s []], some (.cons (.int .i64) (.cons (.int .i64) (.cons (.int .i64) (.cons (.int .i64) (.cons (.int .i64) (.cons (.int .i64) (.cons (.int .i64) (.cons c_iiis (.cons .bool (.one .str)))))))))), false⟩),
  (115, ⟨.struct [(0, 3), (1, 3), (2, 9)], 3, 32, [.i .i64 0, .i .i64 0, .s []], some (.cons (.int .i64) (.cons (.int .i64) (.one .str))), false⟩),
  (121, ⟨.struct [(0, 3), (1, 3), (2, 3), (3, 3), (4, 3), (5, 3), (6, 3), (7, 60), (8, 4), (9, 9)], 10, 104, [.i .i64 0, .i .i64 0, .i .i64 0, .i .i64 0, .i .i64 0, .i .i64 0, .i .i64 0, .nl, .b false, .s []], some (.cons (.int .i64) (.cons (.int .i64) (.cons (.int .i64) (.cons (.int .i64) (.cons (.int .i64) (.cons (.int .i64) (.cons (.int .i64) (.cons c_iiis (.cons .bool (.one .str)))))))))), false⟩),
  (123, ⟨.struct [(0, 3), (1, 3), (2, 9)], 3, 32, [.i .i64 0, .i .i64 0, .s []], some (.cons (.int .i64) (.cons (.int .i64) (.one .str))), false⟩),
  (141, ⟨.struct [(0, 3), (1, 123)], 4, 40, [.i .i64 0, .i .i64 0, .i .i64 0, .s []], some (.cons (.int .i64) (.cons (.int .i64) (.cons (.int .i64) (.one .str)))), false⟩),
  (144, ⟨.struct [(0, 3), (1, 3), (2, 9)], 3, 32, [.i .i64 0, .i .i64 0, .s []], some (.cons (.int .i64) (.cons (.int .i64) (.one .str))), false⟩),
  (150, ⟨.struct [(0, 3), (1, 3), (2, 9)], 3, 32, [.i .i64 0, .i .i64 0, .s []], some (.cons (.int .i64) (.cons (.int .i64) (.one .str))), false⟩),
  (182, ⟨.struct [(0, 3), (1, 115)], 4, 40, [.i .i64 0, .i .i64 0, .i .i64 0, .s []], some (.cons (.int .i64) (.cons (.int .i64) (.cons (.int .i64) (.one .str)))), false⟩),
  (230, ⟨.struct [(0, 3), (1, 3), (2, 9)], 3, 32, [.i .i64 0, .i .i64 0, .s []], some (.cons (.int .i64) (.cons (.int .i64) (.one .str))), false⟩),
  (232, ⟨.struct [(0, 3), (1, 9), (2, 230)], 5, 56, [.i .i64 0, .s [], .i .i64 0, .i .i64 0, .s []], some (.cons (.int .i64) (.cons .str (.cons (.int .i64) (.cons (.int .i64) (.one .str))))), false⟩),
  (243, ⟨.struct [(0, 3), (1, 3), (2, 9)], 3, 32, [.i .i64 0, .i .i64 0, .s []], some (.cons (.int .i64) (.cons (.int .i64) (.one .str))), false⟩),
  (246, ⟨.struct [(0, 3), (1, 9), (2, 243)], 5, 56, [.i .i64 0, .s [], .i .i64 0, .i .i64 0, .s []], some (.cons (.int .i64) (.cons .str (.cons (.int .i64) (.cons (.int .i64) (.one .str))))), false⟩)]
def T (t : TypeId) : Option TyI := lookT t tys
def lp_szStringS_0 : Gam × Gam × List CT := (⟨[(5, .one (.int .i64)), (0, .one (.sh c_s)), (1, .one (.int .i64))], []⟩, ⟨[(1, .one (.int .i64))], []⟩, [(.int .i64)])
def lp_szOpS_0 : Gam × Gam × List CT := (⟨[(5, .one (.int .i64)), (1, .one (.int .i64)), (0, .one (.sh c_iis))], []⟩, ⟨[(1, .one (.int .i64))], []⟩, [(.int .i64)])
def lp_szPeerS_0 : Gam × Gam × List CT := (⟨[(5, .one (.int .i64)), (1, .one (.int .i64)), (0, .one (.sh c_iiiiiLiiisELiisELisiisEiiLiEsiLbELiELiEiLiisELisiisEiiLiEsLuEiLiiiiiiiLiiisEbsE))], []⟩, ⟨[(1, .one (.int .i64))], []⟩, [(.int .i64)])
def lp_szEntryS_0 : Gam × Gam × List CT := (⟨[(5, .one (.int .i64)), (1, .one (.int .i64)), (0, .one (.sh c_iiis))], []⟩, ⟨[(1, .one (.int .i64))], []⟩, [(.int .i64)])
def lp_szValS_0 : Gam × Gam × List CT := (⟨[(5, .one (.int .i64)), (1, .one (.int .i64)), (0, .one (.sh c_iis))], []⟩, ⟨[(1, .one (.int .i64))], []⟩, [(.int .i64)])
def lp_szCellS_0 : Gam × Gam × List CT := (⟨[(5, .one (.int .i64)), (1, .one (.int .i64)), (0, .one (.sh c_isiis))], []⟩, ⟨[(1, .one (.int .i64))], []⟩, [(.int .i64)])
def lp_szRpcS_0 : Gam × Gam × List CT := (⟨[(5, .one (.int .i64)), (1, .one (.int .i64)), (0, .one (.sh c_iiiiiiiLiiisEbs))], []⟩, ⟨[(1, .one (.int .i64))], []⟩, [(.int .i64)])
def lp_szCmdS_0 : Gam × Gam × List CT := (⟨[(5, .one (.int .i64)), (1, .one (.int .i64)), (0, .one (.sh c_iis))], []⟩, ⟨[(1, .one (.int .i64))], []⟩, [(.int .i64)])
def lp_toStringS_0 : Gam × Gam × List CT := (⟨[(4, .one (.int .i64)), (0, .one (.sh c_s)), (3, .one (.own c_s))], []⟩, ⟨[(3, .one (.own c_s))], []⟩, [c_s])
def lp_toOpS_0 : Gam × Gam × List CT := (⟨[(4, .one (.int .i64)), (0, .one (.sh c_iis)), (3, .one (.own c_iis))], []⟩, ⟨[(3, .one (.own c_iis))], []⟩, [c_iis])
def lp_toPeerS_0 : Gam × Gam × List CT := (⟨[(4, .one (.int .i64)), (0, .one (.sh c_iiiiiLiiisELiisELisiisEiiLiEsiLbELiELiEiLiisELisiisEiiLiEsLuEiLiiiiiiiLiiisEbsE)), (3, .one (.own c_iiiiiLiiisELiisELisiisEiiLiEsiLbELiELiEiLiisELisiisEiiLiEsLuEiLiiiiiiiLiiisEbsE))], []⟩, ⟨[(3, .one (.own c_iiiiiLiiisELiisELisiisEiiLiEsiLbELiELiEiLiisELisiisEiiLiEsLuEiLiiiiiiiLiiisEbsE))], []⟩, [c_iiiiiLiiisELiisELisiisEiiLiEsiLbELiELiEiLiisELisiisEiiLiEsLuEiLiiiiiiiLiiisEbsE])
def lp_toEntryS_0 : Gam × Gam × List CT := (⟨[(4, .one (.int .i64)), (0, .one (.sh c_iiis)), (3, .one (.own c_iiis))], []⟩, ⟨[(3, .one (.own c_iiis))], []⟩, [c_iiis])
def lp_toValS_0 : Gam × Gam × List CT := (⟨[(4, .one (.int .i64)), (0, .one (.sh c_iis)), (3, .one (.own c_iis))], []⟩, ⟨[(3, .one (.own c_iis))], []⟩, [c_iis])
def lp_toCellS_0 : Gam × Gam × List CT := (⟨[(4, .one (.int .i64)), (0, .one (.sh c_isiis)), (3, .one (.own c_isiis))], []⟩, ⟨[(3, .one (.own c_isiis))], []⟩, [c_isiis])
def lp_toIntS_0 : Gam × Gam × List CT := (⟨[(4, .one (.int .i64)), (0, .one (.sh c_i)), (3, .one (.own c_i))], []⟩, ⟨[(3, .one (.own c_i))], []⟩, [c_i])
def lp_toBoolS_0 : Gam × Gam × List CT := (⟨[(4, .one (.int .i64)), (0, .one (.sh c_b)), (3, .one (.own c_b))], []⟩, ⟨[(3, .one (.own c_b))], []⟩, [c_b])
def lp_toByteS_0 : Gam × Gam × List CT := (⟨[(4, .one (.int .i64)), (0, .one (.sh c_u)), (3, .one (.own c_u))], []⟩, ⟨[(3, .one (.own c_u))], []⟩, [c_u])
def lp_toRpcS_0 : Gam × Gam × List CT := (⟨[(4, .one (.int .i64)), (0, .one (.sh c_iiiiiiiLiiisEbs)), (3, .one (.own c_iiiiiiiLiiisEbs))], []⟩, ⟨[(3, .one (.own c_iiiiiiiLiiisEbs))], []⟩, [c_iiiiiiiLiiisEbs])
def lp_toCmdS_0 : Gam × Gam × List CT := (⟨[(4, .one (.int .i64)), (0, .one (.sh c_iis)), (3, .one (.own c_iis))], []⟩, ⟨[(3, .one (.own c_iis))], []⟩, [c_iis])
def lp_sWorldText_0 : Gam × Gam × List CT := (⟨[(4, .one (.int .i64)), (1, .one (.pb 1 0)), (3, .one .str)], [(1, [(.sh c_s), (.sh c_s), (.sh c_iis), (.sh c_iis), (.int .i64), (.sh c_iiiiiLiiisELiisELisiisEiiLiEsiLbELiELiEiLiisELisiisEiiLiEsLuEiLiiiiiiiLiiisEbsE), (.sh c_iiiiiiiLiiisEbs), (.int .i64), .str, (.sh c_i), (.sh c_i), (.sh c_iis)])]⟩, ⟨[(1, .one (.pb 1 0)), (3, .one .str)], [(1, [(.sh c_s), (.sh c_s), (.sh c_iis), (.sh c_iis), (.int .i64), (.sh c_iiiiiLiiisELiisELisiisEiiLiEsiLbELiELiEiLiisELisiisEiiLiEsLuEiLiiiiiiiLiiisEbsE), (.sh c_iiiiiiiLiiisEbs), (.int .i64), .str, (.sh c_i), (.sh c_i), (.sh c_iis)])]⟩, [c_s, c_s, c_iis, c_iis, (.int .i64), c_iiiiiLiiisELiisELisiisEiiLiEsiLbELiELiEiLiisELisiisEiiLiEsLuEiLiiiiiiiLiiisEbsE, c_iiiiiiiLiiisEbs, (.int .i64), .str, c_i, c_i, c_iis, .str])
def lp_sl2Digits_0 : Gam × Gam × List CT := (⟨[(0, .one (.int .i64)), (3, .one .str)], []⟩, ⟨[(3, .one .str)], []⟩, [.str])
def lp_sl29Nums_0 : Gam × Gam × List CT := (⟨[(4, .one (.int .i64)), (0, .one (.sh c_i)), (3, .one .str)], []⟩, ⟨[(3, .one .str)], []⟩, [.str])
def lp_iWorldText_0 : Gam × Gam × List CT := (⟨[(9, .one (.int .i64)), (3, .one .str), (7, .one (.sh c_iiiiiLiiisELiisELisiisEiiLiEsiLbELiELiEiLiisELisiisEiiLiEsLuEiLiiiiiiiLiiisEbsE)), (1, .one (.pb 1 0)), (8, .one (.int .i64))], [(1, [(.sh c_s), (.sh c_s), (.sh c_iis), (.sh c_iis), (.int .i64), (.sh c_iiiiiLiiisELiisELisiisEiiLiEsiLbELiELiEiLiisELisiisEiiLiEsLuEiLiiiiiiiLiiisEbsE), (.sh c_iiiiiiiLiiisEbs), (.int .i64), .str, (.sh c_i), (.sh c_i), (.sh c_iis)])]⟩, ⟨[(1, .one (.pb 1 0)), (3, .one .str)], [(1, [(.sh c_s), (.sh c_s), (.sh c_iis), (.sh c_iis), (.int .i64), (.sh c_iiiiiLiiisELiisELisiisEiiLiEsiLbELiELiEiLiisELisiisEiiLiEsLuEiLiiiiiiiLiiisEbsE), (.sh c_iiiiiiiLiiisEbs), (.int .i64), .str, (.sh c_i), (.sh c_i), (.sh c_iis)])]⟩, [c_s, c_s, c_iis, c_iis, (.int .i64), c_iiiiiLiiisELiisELisiisEiiLiEsiLbELiELiEiLiisELisiisEiiLiEsLuEiLiiiiiiiLiiisEbsE, c_iiiiiiiLiiisEbs, (.int .i64), .str, c_i, c_i, c_iis, .str])
def lp_ispaced_0 : Gam × Gam × List CT := (⟨[(8, .one (.int .i64)), (3, .one .str), (6, .one (.sh c_i)), (7, .one (.int .i64))], []⟩, ⟨[(3, .one .str)], []⟩, [.str])
def lp_eqStringS_0 : Gam × Gam × List CT := (⟨[(5, .one (.int .i64)), (1, .one (.sh c_s)), (0, .one (.sh c_s))], []⟩, ⟨[], []⟩, [])
def lp_eqOpS_0 : Gam × Gam × List CT := (⟨[(5, .one (.int .i64)), (1, .one (.sh c_iis)), (0, .one (.sh c_iis))], []⟩, ⟨[], []⟩, [])
def lp_eqPeerS_0 : Gam × Gam × List CT := (⟨[(5, .one (.int .i64)), (1, .one (.sh c_iiiiiLiiisELiisELisiisEiiLiEsiLbELiELiEiLiisELisiisEiiLiEsLuEiLiiiiiiiLiiisEbsE)), (0, .one (.sh c_iiiiiLiiisELiisELisiisEiiLiEsiLbELiELiEiLiisELisiisEiiLiEsLuEiLiiiiiiiLiiisEbsE))], []⟩, ⟨[], []⟩, [])
def lp_eqEntryS_0 : Gam × Gam × List CT := (⟨[(5, .one (.int .i64)), (1, .one (.sh c_iiis)), (0, .one (.sh c_iiis))], []⟩, ⟨[], []⟩, [])
def lp_eqValS_0 : Gam × Gam × List CT := (⟨[(5, .one (.int .i64)), (1, .one (.sh c_iis)), (0, .one (.sh c_iis))], []⟩, ⟨[], []⟩, [])
def lp_eqCellS_0 : Gam × Gam × List CT := (⟨[(5, .one (.int .i64)), (1, .one (.sh c_isiis)), (0, .one (.sh c_isiis))], []⟩, ⟨[], []⟩, [])
def lp_eqIntS_0 : Gam × Gam × List CT := (⟨[(5, .one (.int .i64)), (1, .one (.sh c_i)), (0, .one (.sh c_i))], []⟩, ⟨[], []⟩, [])
def lp_eqBoolS_0 : Gam × Gam × List CT := (⟨[(5, .one (.int .i64)), (1, .one (.sh c_b)), (0, .one (.sh c_b))], []⟩, ⟨[], []⟩, [])
def lp_eqByteS_0 : Gam × Gam × List CT := (⟨[(5, .one (.int .i64)), (1, .one (.sh c_u)), (0, .one (.sh c_u))], []⟩, ⟨[], []⟩, [])
def lp_eqRpcS_0 : Gam × Gam × List CT := (⟨[(5, .one (.int .i64)), (1, .one (.sh c_iiiiiiiLiiisEbs)), (0, .one (.sh c_iiiiiiiLiiisEbs))], []⟩, ⟨[], []⟩, [])
def lp_eqCmdS_0 : Gam × Gam × List CT := (⟨[(5, .one (.int .i64)), (1, .one (.sh c_iis)), (0, .one (.sh c_iis))], []⟩, ⟨[], []⟩, [])
/-- 0: loop.example/g00289/laws.FnExactWorldText -/
noncomputable def en_FnExactWorldText : Entry := { f := 3, fn := Tryz.f3, ins := [.agg [(.sh c_s), (.sh c_s), (.sh c_iis), (.sh c_iis), (.int .i64), (.sh c_iiiiiLiiisELiisELisiisEiiLiEsiLbELiELiEiLiisELisiisEiiLiEsLuEiLiiiiiiiLiiisEbsE), (.sh c_iiiiiiiLiiisEbs), (.int .i64), .str, (.sh c_i), (.sh c_i), (.sh c_iis)]], bx := [], outs := .one .bool, bxo := [], loops := [], noJoin := [], outC := [.bool], prim := none }
/-- 1: loop.example/g00289/laws.szWorld -/
noncomputable def en_szWorld : Entry := { f := 7, fn := Tryz.f7, ins := [.agg [(.sh c_s), (.sh c_s), (.sh c_iis), (.sh c_iis), (.int .i64), (.sh c_iiiiiLiiisELiisELisiisEiiLiEsiLbELiELiEiLiisELisiisEiiLiEsLuEiLiiiiiiiLiiisEbsE), (.sh c_iiiiiiiLiiisEbs), (.int .i64), .str, (.sh c_i), (.sh c_i), (.sh c_iis)], .one (.int .i64)], bx := [], outs := .one (.int .i64), bxo := [], loops := [], noJoin := [], outC := [(.int .i64)], prim := none }
/-- 2: loop.example/g00289/laws.szProg -/
noncomputable def en_szProg : Entry := { f := 18, fn := Tryz.f18, ins := [.agg [(.sh c_s), (.sh c_s), (.sh c_iis), (.sh c_iis)], .one (.int .i64)], bx := [], outs := .one (.int .i64), bxo := [], loops := [], noJoin := [], outC := [(.int .i64)], prim := none }
/-- 3: loop.example/g00289/laws.szStringS -/
noncomputable def en_szStringS : Entry := { f := 47, fn := Tryz.f47, ins := [.one (.sh c_s), .one (.int .i64)], bx := [], outs := .one (.int .i64), bxo := [], loops := [(0, lp_szStringS_0)], noJoin := [], outC := [(.int .i64)], prim := none }
/-- 4: loop.example/g00289/laws.szOpS -/
noncomputable def en_szOpS : Entry := { f := 48, fn := Tryz.f48, ins := [.one (.sh c_iis), .one (.int .i64)], bx := [], outs := .one (.int .i64), bxo := [], loops := [(0, lp_szOpS_0)], noJoin := [], outC := [(.int .i64)], prim := none }
/-- 5: loop.example/g00289/laws.szOp -/
noncomputable def en_szOp : Entry := { f := 81, fn := Tryz.f81, ins := [.agg [(.int .i64), (.int .i64), .str], .one (.int .i64)], bx := [], outs := .one (.int .i64), bxo := [], loops := [], noJoin := [], outC := [(.int .i64)], prim := none }
/-- 6: loop.example/g00289/laws.szPeerS -/
noncomputable def en_szPeerS : Entry := { f := 19, fn := Tryz.f19, ins := [.one (.sh c_iiiiiLiiisELiisELisiisEiiLiEsiLbELiELiEiLiisELisiisEiiLiEsLuEiLiiiiiiiLiiisEbsE), .one (.int .i64)], bx := [], outs := .one (.int .i64), bxo := [], loops := [(0, lp_szPeerS_0)], noJoin := [], outC := [(.int .i64)], prim := none }
/-- 7: loop.example/g00289/laws.szPeer -/
noncomputable def en_szPeer : Entry := { f := 49, fn := Tryz.f49, ins := [.agg [(.int .i64), (.int .i64), (.int .i64), (.int .i64), (.int .i64), (.sh c_iiis), (.sh c_iis), (.sh c_isiis), (.int .i64), (.int .i64), (.sh c_i), .str, (.int .i64), (.sh c_b), (.sh c_i), (.sh c_i), (.int .i64), (.sh c_iis), (.sh c_isiis), (.int .i64), (.int .i64), (.sh c_i), .str, (.sh c_u), (.int .i64), (.sh c_iiiiiiiLiiisEbs)], .one (.int .i64)], bx := [], outs := .one (.int .i64), bxo := [], loops := [], noJoin := [], outC := [(.int .i64)], prim := none }
/-- 8: loop.example/g00289/laws.szHard -/
noncomputable def en_szHard : Entry := { f := 82, fn := Tryz.f82, ins := [.agg [(.int .i64), (.int .i64), (.int .i64), (.int .i64), (.sh c_iiis), (.sh c_iis), (.sh c_isiis), (.int .i64), (.int .i64), (.sh c_i), .str], .one (.int .i64)], bx := [], outs := .one (.int .i64), bxo := [], loops := [], noJoin := [], outC := [(.int .i64)], prim := none }
/-- 9: loop.example/g00289/laws.szLog -/
noncomputable def en_szLog : Entry := { f := 125, fn := Tryz.f125, ins := [.agg [(.int .i64), (.int .i64), (.sh c_iiis)], .one (.int .i64)], bx := [], outs := .one (.int .i64), bxo := [], loops := [], noJoin := [], outC := [(.int .i64)], prim := none }
/-- 10: loop.example/g00289/laws.szEntryS -/
noncomputable def en_szEntryS : Entry := { f := 86, fn := Tryz.f86, ins := [.one (.sh c_iiis), .one (.int .i64)], bx := [], outs := .one (.int .i64), bxo := [], loops := [(0, lp_szEntryS_0)], noJoin := [], outC := [(.int .i64)], prim := none }
/-- 11: loop.example/g00289/laws.szEntry -/
noncomputable def en_szEntry : Entry := { f := 128, fn := Tryz.f128, ins := [.agg [(.int .i64), (.int .i64), (.int .i64), .str], .one (.int .i64)], bx := [], outs := .one (.int .i64), bxo := [], loops := [], noJoin := [], outC := [(.int .i64)], prim := none }
/-- 12: loop.example/g00289/laws.szCmd -/
noncomputable def en_szCmd : Entry := { f := 51, fn := Tryz.f51, ins := [.agg [(.int .i64), (.int .i64), .str], .one (.int .i64)], bx := [], outs := .one (.int .i64), bxo := [], loops := [], noJoin := [], outC := [(.int .i64)], prim := none }
/-- 13: loop.example/g00289/laws.szMach -/
noncomputable def en_szMach : Entry := { f := 84, fn := Tryz.f84, ins := [.agg [(.sh c_iis), (.sh c_isiis), (.int .i64), (.int .i64), (.sh c_i), .str], .one (.int .i64)], bx := [], outs := .one (.int .i64), bxo := [], loops := [], noJoin := [], outC := [(.int .i64)], prim := none }
/-- 14: loop.example/g00289/laws.szState -/
noncomputable def en_szState : Entry := { f := 126, fn := Tryz.f126, ins := [.agg [(.sh c_iis), (.sh c_isiis), (.int .i64), (.int .i64)], .one (.int .i64)], bx := [], outs := .one (.int .i64), bxo := [], loops := [], noJoin := [], outC := [(.int .i64)], prim := none }
/-- 15: loop.example/g00289/laws.szValS -/
noncomputable def en_szValS : Entry := { f := 160, fn := Tryz.f160, ins := [.one (.sh c_iis), .one (.int .i64)], bx := [], outs := .one (.int .i64), bxo := [], loops := [(0, lp_szValS_0)], noJoin := [], outC := [(.int .i64)], prim := none }
/-- 16: loop.example/g00289/laws.szVal -/
noncomputable def en_szVal : Entry := { f := 189, fn := Tryz.f189, ins := [.agg [(.int .i64), (.int .i64), .str], .one (.int .i64)], bx := [], outs := .one (.int .i64), bxo := [], loops := [], noJoin := [], outC := [(.int .i64)], prim := none }
/-- 17: loop.example/g00289/laws.szCellS -/
noncomputable def en_szCellS : Entry := { f := 161, fn := Tryz.f161, ins := [.one (.sh c_isiis), .one (.int .i64)], bx := [], outs := .one (.int .i64), bxo := [], loops := [(0, lp_szCellS_0)], noJoin := [], outC := [(.int .i64)], prim := none }
/-- 18: loop.example/g00289/laws.szCell -/
noncomputable def en_szCell : Entry := { f := 190, fn := Tryz.f190, ins := [.agg [(.int .i64), .str, (.int .i64), (.int .i64), .str], .one (.int .i64)], bx := [], outs := .one (.int .i64), bxo := [], loops := [], noJoin := [], outC := [(.int .i64)], prim := none }
/-- 19: loop.example/g00289/laws.szIntS -/
noncomputable def en_szIntS : Entry := { f := 22, fn := Tryz.f22, ins := [.one (.sh c_i), .one (.int .i64)], bx := [], outs := .one (.int .i64), bxo := [], loops := [], noJoin := [], outC := [(.int .i64)], prim := none }
/-- 20: loop.example/g00289/laws.szBoolS -/
noncomputable def en_szBoolS : Entry := { f := 83, fn := Tryz.f83, ins := [.one (.sh c_b), .one (.int .i64)], bx := [], outs := .one (.int .i64), bxo := [], loops := [], noJoin := [], outC := [(.int .i64)], prim := none }
/-- 21: loop.example/g00289/laws.szDisk -/
noncomputable def en_szDisk : Entry := { f := 85, fn := Tryz.f85, ins := [.agg [(.sh c_u), (.int .i64)], .one (.int .i64)], bx := [], outs := .one (.int .i64), bxo := [], loops := [], noJoin := [], outC := [(.int .i64)], prim := none }
/-- 22: loop.example/g00289/laws.szByteS -/
noncomputable def en_szByteS : Entry := { f := 127, fn := Tryz.f127, ins := [.one (.sh c_u), .one (.int .i64)], bx := [], outs := .one (.int .i64), bxo := [], loops := [], noJoin := [], outC := [(.int .i64)], prim := none }
/-- 23: loop.example/g00289/laws.szRpcS -/
noncomputable def en_szRpcS : Entry := { f := 20, fn := Tryz.f20, ins := [.one (.sh c_iiiiiiiLiiisEbs), .one (.int .i64)], bx := [], outs := .one (.int .i64), bxo := [], loops := [(0, lp_szRpcS_0)], noJoin := [], outC := [(.int .i64)], prim := none }
/-- 24: loop.example/g00289/laws.szRpc -/
noncomputable def en_szRpc : Entry := { f := 50, fn := Tryz.f50, ins := [.agg [(.int .i64), (.int .i64), (.int .i64), (.int .i64), (.int .i64), (.int .i64), (.int .i64), (.sh c_iiis), .bool, .str], .one (.int .i64)], bx := [], outs := .one (.int .i64), bxo := [], loops := [], noJoin := [], outC := [(.int .i64)], prim := none }
/-- 25: loop.example/g00289/laws.szSink -/
noncomputable def en_szSink : Entry := { f := 21, fn := Tryz.f21, ins := [.agg [(.int .i64), .str], .one (.int .i64)], bx := [], outs := .one (.int .i64), bxo := [], loops := [], noJoin := [], outC := [(.int .i64)], prim := none }
/-- 26: loop.example/g00289/laws.szCmdS -/
noncomputable def en_szCmdS : Entry := { f := 23, fn := Tryz.f23, ins := [.one (.sh c_iis), .one (.int .i64)], bx := [], outs := .one (.int .i64), bxo := [], loops := [(0, lp_szCmdS_0)], noJoin := [], outC := [(.int .i64)], prim := none }
/-- 27: loop.example/g00289/laws.toWorld -/
noncomputable def en_toWorld : Entry := { f := 9, fn := Tryz.f9, ins := [.agg [(.sh c_s), (.sh c_s), (.sh c_iis), (.sh c_iis), (.int .i64), (.sh c_iiiiiLiiisELiisELisiisEiiLiEsiLbELiELiEiLiisELisiisEiiLiEsLuEiLiiiiiiiLiiisEbsE), (.sh c_iiiiiiiLiiisEbs), (.int .i64), .str, (.sh c_i), (.sh c_i), (.sh c_iis)]], bx := [], outs := .agg [(.own c_s), (.own c_s), (.own c_iis), (.own c_iis), (.int .i64), (.own c_iiiiiLiiisELiisELisiisEiiLiEsiLbELiELiEiLiisELisiisEiiLiEsLuEiLiiiiiiiLiiisEbsE), (.own c_iiiiiiiLiiisEbs), (.int .i64), .str, (.own c_i), (.own c_i), (.own c_iis)], bxo := [], loops := [], noJoin := [], outC := [c_s, c_s, c_iis, c_iis, (.int .i64), c_iiiiiLiiisELiisELisiisEiiLiEsiLbELiELiEiLiisELisiisEiiLiEsLuEiLiiiiiiiLiiisEbsE, c_iiiiiiiLiiisEbs, (.int .i64), .str, c_i, c_i, c_iis], prim := none }
/-- 28: loop.example/g00289/laws.toProg -/
noncomputable def en_toProg : Entry := { f := 26, fn := Tryz.f26, ins := [.agg [(.sh c_s), (.sh c_s), (.sh c_iis), (.sh c_iis)]], bx := [], outs := .agg [(.own c_s), (.own c_s), (.own c_iis), (.own c_iis)], bxo := [], loops := [], noJoin := [], outC := [c_s, c_s, c_iis, c_iis], prim := none }
/-- 29: loop.example/g00289/laws.toStringS -/
noncomputable def en_toStringS : Entry := { f := 54, fn := Tryz.f54, ins := [.one (.sh c_s)], bx := [], outs := .one (.own c_s), bxo := [], loops := [(0, lp_toStringS_0)], noJoin := [], outC := [c_s], prim := none }
/-- 30: loop.example/g00289/laws.toOpS -/
noncomputable def en_toOpS : Entry := { f := 55, fn := Tryz.f55, ins := [.one (.sh c_iis)], bx := [], outs := .one (.own c_iis), bxo := [], loops := [(0, lp_toOpS_0)], noJoin := [], outC := [c_iis], prim := none }
/-- 31: loop.example/g00289/laws.toOp -/
noncomputable def en_toOp : Entry := { f := 88, fn := Tryz.f88, ins := [.agg [(.int .i64), (.int .i64), .str]], bx := [], outs := .agg [(.int .i64), (.int .i64), .str], bxo := [], loops := [], noJoin := [], outC := [(.int .i64), (.int .i64), .str], prim := none }
/-- 32: loop.example/g00289/laws.toPeerS -/
noncomputable def en_toPeerS : Entry := { f := 27, fn := Tryz.f27, ins := [.one (.sh c_iiiiiLiiisELiisELisiisEiiLiEsiLbELiELiEiLiisELisiisEiiLiEsLuEiLiiiiiiiLiiisEbsE)], bx := [], outs := .one (.own c_iiiiiLiiisELiisELisiisEiiLiEsiLbELiELiEiLiisELisiisEiiLiEsLuEiLiiiiiiiLiiisEbsE), bxo := [], loops := [(0, lp_toPeerS_0)], noJoin := [], outC := [c_iiiiiLiiisELiisELisiisEiiLiEsiLbELiELiEiLiisELisiisEiiLiEsLuEiLiiiiiiiLiiisEbsE], prim := none }
/-- 33: loop.example/g00289/laws.toPeer -/
noncomputable def en_toPeer : Entry := { f := 56, fn := Tryz.f56, ins := [.agg [(.int .i64), (.int .i64), (.int .i64), (.int .i64), (.int .i64), (.sh c_iiis), (.sh c_iis), (.sh c_isiis), (.int .i64), (.int .i64), (.sh c_i), .str, (.int .i64), (.sh c_b), (.sh c_i), (.sh c_i), (.int .i64), (.sh c_iis), (.sh c_isiis), (.int .i64), (.int .i64), (.sh c_i), .str, (.sh c_u), (.int .i64), (.sh c_iiiiiiiLiiisEbs)]], bx := [], outs := .agg [(.int .i64), (.int .i64), (.int .i64), (.int .i64), (.int .i64), (.own c_iiis), (.own c_iis), (.own c_isiis), (.int .i64), (.int .i64), (.own c_i), .str, (.int .i64), (.own c_b), (.own c_i), (.own c_i), (.int .i64), (.own c_iis), (.own c_isiis), (.int .i64), (.int .i64), (.own c_i), .str, (.own c_u), (.int .i64), (.own c_iiiiiiiLiiisEbs)], bxo := [], loops := [], noJoin := [], outC := [(.int .i64), (.int .i64), (.int .i64), (.int .i64), (.int .i64), c_iiis, c_iis, c_isiis, (.int .i64), (.int .i64), c_i, .str, (.int .i64), c_b, c_i, c_i, (.int .i64), c_iis, c_isiis, (.int .i64), (.int .i64), c_i, .str, c_u, (.int .i64), c_iiiiiiiLiiisEbs], prim := none }
/-- 34: loop.example/g00289/laws.toHard -/
noncomputable def en_toHard : Entry := { f := 89, fn := Tryz.f89, ins := [.agg [(.int .i64), (.int .i64), (.int .i64), (.int .i64), (.sh c_iiis), (.sh c_iis), (.sh c_isiis), (.int .i64), (.int .i64), (.sh c_i), .str]], bx := [], outs := .agg [(.int .i64), (.int .i64), (.int .i64), (.int .i64), (.own c_iiis), (.own c_iis), (.own c_isiis), (.int .i64), (.int .i64), (.own c_i), .str], bxo := [], loops := [], noJoin := [], outC := [(.int .i64), (.int .i64), (.int .i64), (.int .i64), c_iiis, c_iis, c_isiis, (.int .i64), (.int .i64), c_i, .str], prim := none }
/-- 35: loop.example/g00289/laws.toLog -/
noncomputable def en_toLog : Entry := { f := 129, fn := Tryz.f129, ins := [.agg [(.int .i64), (.int .i64), (.sh c_iiis)]], bx := [], outs := .agg [(.int .i64), (.int .i64), (.own c_iiis)], bxo := [], loops := [], noJoin := [], outC := [(.int .i64), (.int .i64), c_iiis], prim := none }
/-- 36: loop.example/g00289/laws.toEntryS -/
noncomputable def en_toEntryS : Entry := { f := 93, fn := Tryz.f93, ins := [.one (.sh c_iiis)], bx := [], outs := .one (.own c_iiis), bxo := [], loops := [(0, lp_toEntryS_0)], noJoin := [], outC := [c_iiis], prim := none }
/-- 37: loop.example/g00289/laws.toEntry -/
noncomputable def en_toEntry : Entry := { f := 132, fn := Tryz.f132, ins := [.agg [(.int .i64), (.int .i64), (.int .i64), .str]], bx := [], outs := .agg [(.int .i64), (.int .i64), (.int .i64), .str], bxo := [], loops := [], noJoin := [], outC := [(.int .i64), (.int .i64), (.int .i64), .str], prim := none }
/-- 38: loop.example/g00289/laws.toCmd -/
noncomputable def en_toCmd : Entry := { f := 58, fn := Tryz.f58, ins := [.agg [(.int .i64), (.int .i64), .str]], bx := [], outs := .agg [(.int .i64), (.int .i64), .str], bxo := [], loops := [], noJoin := [], outC := [(.int .i64), (.int .i64), .str], prim := none }
/-- 39: loop.example/g00289/laws.toMach -/
noncomputable def en_toMach : Entry := { f := 91, fn := Tryz.f91, ins := [.agg [(.sh c_iis), (.sh c_isiis), (.int .i64), (.int .i64), (.sh c_i), .str]], bx := [], outs := .agg [(.own c_iis), (.own c_isiis), (.int .i64), (.int .i64), (.own c_i), .str], bxo := [], loops := [], noJoin := [], outC := [c_iis, c_isiis, (.int .i64), (.int .i64), c_i, .str], prim := none }
/-- 40: loop.example/g00289/laws.toState -/
noncomputable def en_toState : Entry := { f := 130, fn := Tryz.f130, ins := [.agg [(.sh c_iis), (.sh c_isiis), (.int .i64), (.int .i64)]], bx := [], outs := .agg [(.own c_iis), (.own c_isiis), (.int .i64), (.int .i64)], bxo := [], loops := [], noJoin := [], outC := [c_iis, c_isiis, (.int .i64), (.int .i64)], prim := none }
/-- 41: loop.example/g00289/laws.toValS -/
noncomputable def en_toValS : Entry := { f := 162, fn := Tryz.f162, ins := [.one (.sh c_iis)], bx := [], outs := .one (.own c_iis), bxo := [], loops := [(0, lp_toValS_0)], noJoin := [], outC := [c_iis], prim := none }
/-- 42: loop.example/g00289/laws.toVal -/
noncomputable def en_toVal : Entry := { f := 191, fn := Tryz.f191, ins := [.agg [(.int .i64), (.int .i64), .str]], bx := [], outs := .agg [(.int .i64), (.int .i64), .str], bxo := [], loops := [], noJoin := [], outC := [(.int .i64), (.int .i64), .str], prim := none }
/-- 43: loop.example/g00289/laws.toCellS -/
noncomputable def en_toCellS : Entry := { f := 163, fn := Tryz.f163, ins := [.one (.sh c_isiis)], bx := [], outs := .one (.own c_isiis), bxo := [], loops := [(0, lp_toCellS_0)], noJoin := [], outC := [c_isiis], prim := none }
/-- 44: loop.example/g00289/laws.toCell -/
noncomputable def en_toCell : Entry := { f := 192, fn := Tryz.f192, ins := [.agg [(.int .i64), .str, (.int .i64), (.int .i64), .str]], bx := [], outs := .agg [(.int .i64), .str, (.int .i64), (.int .i64), .str], bxo := [], loops := [], noJoin := [], outC := [(.int .i64), .str, (.int .i64), (.int .i64), .str], prim := none }
/-- 45: loop.example/g00289/laws.toIntS -/
noncomputable def en_toIntS : Entry := { f := 30, fn := Tryz.f30, ins := [.one (.sh c_i)], bx := [], outs := .one (.own c_i), bxo := [], loops := [(0, lp_toIntS_0)], noJoin := [], outC := [c_i], prim := none }
/-- 46: loop.example/g00289/laws.toBoolS -/
noncomputable def en_toBoolS : Entry := { f := 90, fn := Tryz.f90, ins := [.one (.sh c_b)], bx := [], outs := .one (.own c_b), bxo := [], loops := [(0, lp_toBoolS_0)], noJoin := [], outC := [c_b], prim := none }
/-- 47: loop.example/g00289/laws.toDisk -/
noncomputable def en_toDisk : Entry := { f := 92, fn := Tryz.f92, ins := [.agg [(.sh c_u), (.int .i64)]], bx := [], outs := .agg [(.own c_u), (.int .i64)], bxo := [], loops := [], noJoin := [], outC := [c_u, (.int .i64)], prim := none }
/-- 48: loop.example/g00289/laws.toByteS -/
noncomputable def en_toByteS : Entry := { f := 131, fn := Tryz.f131, ins := [.one (.sh c_u)], bx := [], outs := .one (.own c_u), bxo := [], loops := [(0, lp_toByteS_0)], noJoin := [], outC := [c_u], prim := none }
/-- 49: loop.example/g00289/laws.toRpcS -/
noncomputable def en_toRpcS : Entry := { f := 28, fn := Tryz.f28, ins := [.one (.sh c_iiiiiiiLiiisEbs)], bx := [], outs := .one (.own c_iiiiiiiLiiisEbs), bxo := [], loops := [(0, lp_toRpcS_0)], noJoin := [], outC := [c_iiiiiiiLiiisEbs], prim := none }
/-- 50: loop.example/g00289/laws.toRpc -/
noncomputable def en_toRpc : Entry := { f := 57, fn := Tryz.f57, ins := [.agg [(.int .i64), (.int .i64), (.int .i64), (.int .i64), (.int .i64), (.int .i64), (.int .i64), (.sh c_iiis), .bool, .str]], bx := [], outs := .agg [(.int .i64), (.int .i64), (.int .i64), (.int .i64), (.int .i64), (.int .i64), (.int .i64), (.own c_iiis), .bool, .str], bxo := [], loops := [], noJoin := [], outC := [(.int .i64), (.int .i64), (.int .i64), (.int .i64), (.int .i64), (.int .i64), (.int .i64), c_iiis, .bool, .str], prim := none }
/-- 51: loop.example/g00289/laws.toSink -/
noncomputable def en_toSink : Entry := { f := 29, fn := Tryz.f29, ins := [.agg [(.int .i64), .str]], bx := [], outs := .agg [(.int .i64), .str], bxo := [], loops := [], noJoin := [], outC := [(.int .i64), .str], prim := none }
/-- 52: loop.example/g00289/laws.toCmdS -/
noncomputable def en_toCmdS : Entry := { f := 31, fn := Tryz.f31, ins := [.one (.sh c_iis)], bx := [], outs := .one (.own c_iis), bxo := [], loops := [(0, lp_toCmdS_0)], noJoin := [], outC := [c_iis], prim := none }
/-- 53: loop.example/g00289/spec.WorldText -/
noncomputable def en_sWorldText : Entry := { f := 8, fn := Tryz.f8, ins := [.agg [(.sh c_s), (.sh c_s), (.sh c_iis), (.sh c_iis), (.int .i64), (.sh c_iiiiiLiiisELiisELisiisEiiLiEsiLbELiELiEiLiisELisiisEiiLiEsLuEiLiiiiiiiLiiisEbsE), (.sh c_iiiiiiiLiiisEbs), (.int .i64), .str, (.sh c_i), (.sh c_i), (.sh c_iis)]], bx := [], outs := .one .str, bxo := [], loops := [(0, lp_sWorldText_0)], noJoin := [], outC := [.str], prim := none }
/-- 54: loop.example/g00289/spec.l2Digits -/
noncomputable def en_sl2Digits : Entry := { f := 24, fn := Tryz.f24, ins := [.one (.int .i64)], bx := [], outs := .one .str, bxo := [], loops := [(0, lp_sl2Digits_0)], noJoin := [], outC := [.str], prim := none }
/-- 55: loop.example/g00289/spec.PeerText -/
noncomputable def en_sPeerText : Entry := { f := 25, fn := Tryz.f25, ins := [.agg [(.int .i64), (.int .i64), (.int .i64), (.int .i64), (.int .i64), (.sh c_iiis), (.sh c_iis), (.sh c_isiis), (.int .i64), (.int .i64), (.sh c_i), .str, (.int .i64), (.sh c_b), (.sh c_i), (.sh c_i), (.int .i64), (.sh c_iis), (.sh c_isiis), (.int .i64), (.int .i64), (.sh c_i), .str, (.sh c_u), (.int .i64), (.sh c_iiiiiiiLiiisEbs)]], bx := [], outs := .one .str, bxo := [], loops := [], noJoin := [], outC := [.str], prim := none }
/-- 56: loop.example/g00289/spec.LastOf -/
noncomputable def en_sLastOf : Entry := { f := 52, fn := Tryz.f52, ins := [.agg [(.int .i64), (.int .i64), (.sh c_iiis)]], bx := [], outs := .tup [.one (.int .i64), .one (.int .i64)], bxo := [], loops := [], noJoin := [], outC := [(.int .i64), (.int .i64)], prim := none }
/-- 57: loop.example/g00289/spec.l29Nums -/
noncomputable def en_sl29Nums : Entry := { f := 53, fn := Tryz.f53, ins := [.one (.sh c_i)], bx := [], outs := .one .str, bxo := [], loops := [(0, lp_sl29Nums_0)], noJoin := [], outC := [.str], prim := none }
/-- 58: loop.example/g00289/spec.l29Int -/
noncomputable def en_sl29Int : Entry := { f := 87, fn := Tryz.f87, ins := [.one (.int .i64)], bx := [], outs := .one .str, bxo := [], loops := [], noJoin := [], outC := [.str], prim := none }
/-- 59: loop.example/g00289/impl.WorldText -/
noncomputable def en_iWorldText : Entry := { f := 10, fn := Tryz.f10, ins := [.agg [(.sh c_s), (.sh c_s), (.sh c_iis), (.sh c_iis), (.int .i64), (.sh c_iiiiiLiiisELiisELisiisEiiLiEsiLbELiELiEiLiisELisiisEiiLiEsLuEiLiiiiiiiLiiisEbsE), (.sh c_iiiiiiiLiiisEbs), (.int .i64), .str, (.sh c_i), (.sh c_i), (.sh c_iis)]], bx := [], outs := .one .str, bxo := [], loops := [(0, lp_iWorldText_0)], noJoin := [], outC := [.str], prim := none }
/-- 60: strconv.Itoa -/
noncomputable def en_strconv_Itoa : Entry := { f := 32, fn := Tryz.f32, ins := [.one (.int .i64)], bx := [], outs := .one .str, bxo := [], loops := [], noJoin := [], outC := [.str], prim := some primItoa }
/-- 61: loop.example/g00289/impl.PeerText -/
noncomputable def en_iPeerText : Entry := { f := 33, fn := Tryz.f33, ins := [.agg [(.int .i64), (.int .i64), (.int .i64), (.int .i64), (.int .i64), (.sh c_iiis), (.sh c_iis), (.sh c_isiis), (.int .i64), (.int .i64), (.sh c_i), .str, (.int .i64), (.sh c_b), (.sh c_i), (.sh c_i), (.int .i64), (.sh c_iis), (.sh c_isiis), (.int .i64), (.int .i64), (.sh c_i), .str, (.sh c_u), (.int .i64), (.sh c_iiiiiiiLiiisEbs)]], bx := [], outs := .one .str, bxo := [], loops := [], noJoin := [], outC := [.str], prim := none }
/-- 62: loop.example/g00289/impl.LastOf -/
noncomputable def en_iLastOf : Entry := { f := 46, fn := Tryz.f46, ins := [.agg [(.int .i64), (.int .i64), (.sh c_iiis)]], bx := [], outs := .tup [.one (.int .i64), .one (.int .i64)], bxo := [], loops := [], noJoin := [], outC := [(.int .i64), (.int .i64)], prim := none }
/-- 63: loop.example/g00289/impl.spaced -/
noncomputable def en_ispaced : Entry := { f := 34, fn := Tryz.f34, ins := [.one (.sh c_i)], bx := [], outs := .one .str, bxo := [], loops := [(0, lp_ispaced_0)], noJoin := [], outC := [.str], prim := none }
/-- 64: loop.example/g00289/laws.eqWorld -/
noncomputable def en_eqWorld : Entry := { f := 11, fn := Tryz.f11, ins := [.agg [(.sh c_s), (.sh c_s), (.sh c_iis), (.sh c_iis), (.int .i64), (.sh c_iiiiiLiiisELiisELisiisEiiLiEsiLbELiELiEiLiisELisiisEiiLiEsLuEiLiiiiiiiLiiisEbsE), (.sh c_iiiiiiiLiiisEbs), (.int .i64), .str, (.sh c_i), (.sh c_i), (.sh c_iis)], .agg [(.sh c_s), (.sh c_s), (.sh c_iis), (.sh c_iis), (.int .i64), (.sh c_iiiiiLiiisELiisELisiisEiiLiEsiLbELiELiEiLiisELisiisEiiLiEsLuEiLiiiiiiiLiiisEbsE), (.sh c_iiiiiiiLiiisEbs), (.int .i64), .str, (.sh c_i), (.sh c_i), (.sh c_iis)]], bx := [], outs := .one .bool, bxo := [], loops := [], noJoin := [], outC := [.bool], prim := none }
/-- 65: loop.example/g00289/laws.eqProg -/
noncomputable def en_eqProg : Entry := { f := 35, fn := Tryz.f35, ins := [.agg [(.sh c_s), (.sh c_s), (.sh c_iis), (.sh c_iis)], .agg [(.sh c_s), (.sh c_s), (.sh c_iis), (.sh c_iis)]], bx := [], outs := .one .bool, bxo := [], loops := [], noJoin := [], outC := [.bool], prim := none }
/-- 66: loop.example/g00289/laws.eqStringS -/
noncomputable def en_eqStringS : Entry := { f := 60, fn := Tryz.f60, ins := [.one (.sh c_s), .one (.sh c_s)], bx := [], outs := .one .bool, bxo := [], loops := [(0, lp_eqStringS_0)], noJoin := [], outC := [.bool], prim := none }
/-- 67: loop.example/g00289/laws.eqOpS -/
noncomputable def en_eqOpS : Entry := { f := 61, fn := Tryz.f61, ins := [.one (.sh c_iis), .one (.sh c_iis)], bx := [], outs := .one .bool, bxo := [], loops := [(0, lp_eqOpS_0)], noJoin := [], outC := [.bool], prim := none }
/-- 68: loop.example/g00289/laws.eqOp -/
noncomputable def en_eqOp : Entry := { f := 95, fn := Tryz.f95, ins := [.agg [(.int .i64), (.int .i64), .str], .agg [(.int .i64), (.int .i64), .str]], bx := [], outs := .one .bool, bxo := [], loops := [], noJoin := [], outC := [.bool], prim := none }
/-- 69: loop.example/g00289/laws.eqPeerS -/
noncomputable def en_eqPeerS : Entry := { f := 36, fn := Tryz.f36, ins := [.one (.sh c_iiiiiLiiisELiisELisiisEiiLiEsiLbELiELiEiLiisELisiisEiiLiEsLuEiLiiiiiiiLiiisEbsE), .one (.sh c_iiiiiLiiisELiisELisiisEiiLiEsiLbELiELiEiLiisELisiisEiiLiEsLuEiLiiiiiiiLiiisEbsE)], bx := [], outs := .one .bool, bxo := [], loops := [(0, lp_eqPeerS_0)], noJoin := [], outC := [.bool], prim := none }
/-- 70: loop.example/g00289/laws.eqPeer -/
noncomputable def en_eqPeer : Entry := { f := 62, fn := Tryz.f62, ins := [.agg [(.int .i64), (.int .i64), (.int .i64), (.int .i64), (.int .i64), (.sh c_iiis), (.sh c_iis), (.sh c_isiis), (.int .i64), (.int .i64), (.sh c_i), .str, (.int .i64), (.sh c_b), (.sh c_i), (.sh c_i), (.int .i64), (.sh c_iis), (.sh c_isiis), (.int .i64), (.int .i64), (.sh c_i), .str, (.sh c_u), (.int .i64), (.sh c_iiiiiiiLiiisEbs)], .agg [(.int .i64), (.int .i64), (.int .i64), (.int .i64), (.int .i64), (.sh c_iiis), (.sh c_iis), (.sh c_isiis), (.int .i64), (.int .i64), (.sh c_i), .str, (.int .i64), (.sh c_b), (.sh c_i), (.sh c_i), (.int .i64), (.sh c_iis), (.sh c_isiis), (.int .i64), (.int .i64), (.sh c_i), .str, (.sh c_u), (.int .i64), (.sh c_iiiiiiiLiiisEbs)]], bx := [], outs := .one .bool, bxo := [], loops := [], noJoin := [], outC := [.bool], prim := none }
/-- 71: loop.example/g00289/laws.eqHard -/
noncomputable def en_eqHard : Entry := { f := 96, fn := Tryz.f96, ins := [.agg [(.int .i64), (.int .i64), (.int .i64), (.int .i64), (.sh c_iiis), (.sh c_iis), (.sh c_isiis), (.int .i64), (.int .i64), (.sh c_i), .str], .agg [(.int .i64), (.int .i64), (.int .i64), (.int .i64), (.sh c_iiis), (.sh c_iis), (.sh c_isiis), (.int .i64), (.int .i64), (.sh c_i), .str]], bx := [], outs := .one .bool, bxo := [], loops := [], noJoin := [], outC := [.bool], prim := none }
/-- 72: loop.example/g00289/laws.eqLog -/
noncomputable def en_eqLog : Entry := { f := 137, fn := Tryz.f137, ins := [.agg [(.int .i64), (.int .i64), (.sh c_iiis)], .agg [(.int .i64), (.int .i64), (.sh c_iiis)]], bx := [], outs := .one .bool, bxo := [], loops := [], noJoin := [], outC := [.bool], prim := none }
/-- 73: loop.example/g00289/laws.eqEntryS -/
noncomputable def en_eqEntryS : Entry := { f := 100, fn := Tryz.f100, ins := [.one (.sh c_iiis), .one (.sh c_iiis)], bx := [], outs := .one .bool, bxo := [], loops := [(0, lp_eqEntryS_0)], noJoin := [], outC := [.bool], prim := none }
/-- 74: loop.example/g00289/laws.eqEntry -/
noncomputable def en_eqEntry : Entry := { f := 140, fn := Tryz.f140, ins := [.agg [(.int .i64), (.int .i64), (.int .i64), .str], .agg [(.int .i64), (.int .i64), (.int .i64), .str]], bx := [], outs := .one .bool, bxo := [], loops := [], noJoin := [], outC := [.bool], prim := none }
/-- 75: loop.example/g00289/laws.eqCmd -/
noncomputable def en_eqCmd : Entry := { f := 64, fn := Tryz.f64, ins := [.agg [(.int .i64), (.int .i64), .str], .agg [(.int .i64), (.int .i64), .str]], bx := [], outs := .one .bool, bxo := [], loops := [], noJoin := [], outC := [.bool], prim := none }
/-- 76: loop.example/g00289/laws.eqMach -/
noncomputable def en_eqMach : Entry := { f := 98, fn := Tryz.f98, ins := [.agg [(.sh c_iis), (.sh c_isiis), (.int .i64), (.int .i64), (.sh c_i), .str], .agg [(.sh c_iis), (.sh c_isiis), (.int .i64), (.int .i64), (.sh c_i), .str]], bx := [], outs := .one .bool, bxo := [], loops := [], noJoin := [], outC := [.bool], prim := none }
/-- 77: loop.example/g00289/laws.eqState -/
noncomputable def en_eqState : Entry := { f := 138, fn := Tryz.f138, ins := [.agg [(.sh c_iis), (.sh c_isiis), (.int .i64), (.int .i64)], .agg [(.sh c_iis), (.sh c_isiis), (.int .i64), (.int .i64)]], bx := [], outs := .one .bool, bxo := [], loops := [], noJoin := [], outC := [.bool], prim := none }
/-- 78: loop.example/g00289/laws.eqValS -/
noncomputable def en_eqValS : Entry := { f := 169, fn := Tryz.f169, ins := [.one (.sh c_iis), .one (.sh c_iis)], bx := [], outs := .one .bool, bxo := [], loops := [(0, lp_eqValS_0)], noJoin := [], outC := [.bool], prim := none }
/-- 79: loop.example/g00289/laws.eqVal -/
noncomputable def en_eqVal : Entry := { f := 195, fn := Tryz.f195, ins := [.agg [(.int .i64), (.int .i64), .str], .agg [(.int .i64), (.int .i64), .str]], bx := [], outs := .one .bool, bxo := [], loops := [], noJoin := [], outC := [.bool], prim := none }
/-- 80: loop.example/g00289/laws.eqCellS -/
noncomputable def en_eqCellS : Entry := { f := 170, fn := Tryz.f170, ins := [.one (.sh c_isiis), .one (.sh c_isiis)], bx := [], outs := .one .bool, bxo := [], loops := [(0, lp_eqCellS_0)], noJoin := [], outC := [.bool], prim := none }
/-- 81: loop.example/g00289/laws.eqCell -/
noncomputable def en_eqCell : Entry := { f := 196, fn := Tryz.f196, ins := [.agg [(.int .i64), .str, (.int .i64), (.int .i64), .str], .agg [(.int .i64), .str, (.int .i64), (.int .i64), .str]], bx := [], outs := .one .bool, bxo := [], loops := [], noJoin := [], outC := [.bool], prim := none }
/-- 82: loop.example/g00289/laws.eqIntS -/
noncomputable def en_eqIntS : Entry := { f := 39, fn := Tryz.f39, ins := [.one (.sh c_i), .one (.sh c_i)], bx := [], outs := .one .bool, bxo := [], loops := [(0, lp_eqIntS_0)], noJoin := [], outC := [.bool], prim := none }
/-- 83: loop.example/g00289/laws.eqBoolS -/
noncomputable def en_eqBoolS : Entry := { f := 97, fn := Tryz.f97, ins := [.one (.sh c_b), .one (.sh c_b)], bx := [], outs := .one .bool, bxo := [], loops := [(0, lp_eqBoolS_0)], noJoin := [], outC := [.bool], prim := none }
/-- 84: loop.example/g00289/laws.eqDisk -/
noncomputable def en_eqDisk : Entry := { f := 99, fn := Tryz.f99, ins := [.agg [(.sh c_u), (.int .i64)], .agg [(.sh c_u), (.int .i64)]], bx := [], outs := .one .bool, bxo := [], loops := [], noJoin := [], outC := [.bool], prim := none }
/-- 85: loop.example/g00289/laws.eqByteS -/
noncomputable def en_eqByteS : Entry := { f := 139, fn := Tryz.f139, ins := [.one (.sh c_u), .one (.sh c_u)], bx := [], outs := .one .bool, bxo := [], loops := [(0, lp_eqByteS_0)], noJoin := [], outC := [.bool], prim := none }
/-- 86: loop.example/g00289/laws.eqRpcS -/
noncomputable def en_eqRpcS : Entry := { f := 37, fn := Tryz.f37, ins := [.one (.sh c_iiiiiiiLiiisEbs), .one (.sh c_iiiiiiiLiiisEbs)], bx := [], outs := .one .bool, bxo := [], loops := [(0, lp_eqRpcS_0)], noJoin := [], outC := [.bool], prim := none }
/-- 87: loop.example/g00289/laws.eqRpc -/
noncomputable def en_eqRpc : Entry := { f := 63, fn := Tryz.f63, ins := [.agg [(.int .i64), (.int .i64), (.int .i64), (.int .i64), (.int .i64), (.int .i64), (.int .i64), (.sh c_iiis), .bool, .str], .agg [(.int .i64), (.int .i64), (.int .i64), (.int .i64), (.int .i64), (.int .i64), (.int .i64), (.sh c_iiis), .bool, .str]], bx := [], outs := .one .bool, bxo := [], loops := [], noJoin := [], outC := [.bool], prim := none }
/-- 88: loop.example/g00289/laws.eqSink -/
noncomputable def en_eqSink : Entry := { f := 38, fn := Tryz.f38, ins := [.agg [(.int .i64), .str], .agg [(.int .i64), .str]], bx := [], outs := .one .bool, bxo := [], loops := [], noJoin := [], outC := [.bool], prim := none }
/-- 89: loop.example/g00289/laws.eqCmdS -/
noncomputable def en_eqCmdS : Entry := { f := 40, fn := Tryz.f40, ins := [.one (.sh c_iis), .one (.sh c_iis)], bx := [], outs := .one .bool, bxo := [], loops := [(0, lp_eqCmdS_0)], noJoin := [], outC := [.bool], prim := none }
noncomputable def tabL : List Entry := [en_FnExactWorldText, en_szWorld, en_szProg, en_szStringS, en_szOpS, en_szOp, en_szPeerS, en_szPeer, en_szHard, en_szLog, en_szEntryS, en_szEntry, en_szCmd, en_szMach, en_szState, en_szValS, en_szVal, en_szCellS, en_szCell, en_szIntS, en_szBoolS, en_szDisk, en_szByteS, en_szRpcS, en_szRpc, en_szSink, en_szCmdS, en_toWorld, en_toProg, en_toStringS, en_toOpS, en_toOp, en_toPeerS, en_toPeer, en_toHard, en_toLog, en_toEntryS, en_toEntry, en_toCmd, en_toMach, en_toState, en_toValS, en_toVal, en_toCellS, en_toCell, en_toIntS, en_toBoolS, en_toDisk, en_toByteS, en_toRpcS, en_toRpc, en_toSink, en_toCmdS, en_sWorldText, en_sl2Digits, en_sPeerText, en_sLastOf, en_sl29Nums, en_sl29Int, en_iWorldText, en_strconv_Itoa, en_iPeerText, en_iLastOf, en_ispaced, en_eqWorld, en_eqProg, en_eqStringS, en_eqOpS, en_eqOp, en_eqPeerS, en_eqPeer, en_eqHard, en_eqLog, en_eqEntryS, en_eqEntry, en_eqCmd, en_eqMach, en_eqState, en_eqValS, en_eqVal, en_eqCellS, en_eqCell, en_eqIntS, en_eqBoolS, en_eqDisk, en_eqByteS, en_eqRpcS, en_eqRpc, en_eqSink, en_eqCmdS]
noncomputable def tab (e : Nat) : Entry := tabOf tabL en_FnExactWorldText e
def candL : List (FuncId × List Nat) := [(3, [0]), (7, [1]), (8, [53]), (9, [27]), (10, [59]), (11, [64]), (18, [2]), (19, [6]), (20, [23]), (21, [25]), (22, [19]), (23, [26]), (24, [54]), (25, [55]), (26, [28]), (27, [32]), (28, [49]), (29, [51]), (30, [45]), (31, [52]), (32, [60]), (33, [61]), (34, [63]), (35, [65]), (36, [69]), (37, [86]), (38, [88]), (39, [82]), (40, [89]), (46, [62]), (47, [3]), (48, [4]), (49, [7]), (50, [24]), (51, [12]), (52, [56]), (53, [57]), (54, [29]), (55, [30]), (56, [33]), (57, [50]), (58, [38]), (60, [66]), (61, [67]), (62, [70]), (63, [87]), (64, [75]), (81, [5]), (82, [8]), (83, [20]), (84, [13]), (85, [21]), (86, [10]), (87, [58]), (88, [31]), (89, [34]), (90, [46]), (91, [39]), (92, [47]), (93, [36]), (95, [68]), (96, [71]), (97, [83]), (98, [76]), (99, [84]), (100, [73]), (125, [9]), (126, [14]), (127, [22]), (128, [11]), (129, [35]), (130, [40]), (131, [48]), (132, [37]), (137, [72]), (138, [77]), (139, [85]), (140, [74]), (160, [15]), (161, [17]), (162, [41]), (163, [43]), (169, [78]), (170, [80]), (189, [16]), (190, [18]), (191, [42]), (192, [44]), (195, [79]), (196, [81])]
def cands (f : FuncId) : List Nat := lookC f candL
noncomputable def LL_szStringS_0 (n : Nat) : Nat → List DV → Option (Sum (InterpA lp_szStringS_0.2.2) (InterpA en_szStringS.outC)) := loopF T (callM tab cands (D T tab cands n)) en_szStringS n 0 lp_szStringS_0
noncomputable def LL_szOpS_0 (n : Nat) : Nat → List DV → Option (Sum (InterpA lp_szOpS_0.2.2) (InterpA en_szOpS.outC)) := loopF T (callM tab cands (D T tab cands n)) en_szOpS n 0 lp_szOpS_0
noncomputable def LL_szPeerS_0 (n : Nat) : Nat → List DV → Option (Sum (InterpA lp_szPeerS_0.2.2) (InterpA en_szPeerS.outC)) := loopF T (callM tab cands (D T tab cands n)) en_szPeerS n 0 lp_szPeerS_0
noncomputable def LL_szEntryS_0 (n : Nat) : Nat → List DV → Option (Sum (InterpA lp_szEntryS_0.2.2) (InterpA en_szEntryS.outC)) := loopF T (callM tab cands (D T tab cands n)) en_szEntryS n 0 lp_szEntryS_0
noncomputable def LL_szValS_0 (n : Nat) : Nat → List DV → Option (Sum (InterpA lp_szValS_0.2.2) (InterpA en_szValS.outC)) := loopF T (callM tab cands (D T tab cands n)) en_szValS n 0 lp_szValS_0
noncomputable def LL_szCellS_0 (n : Nat) : Nat → List DV → Option (Sum (InterpA lp_szCellS_0.2.2) (InterpA en_szCellS.outC)) := loopF T (callM tab cands (D T tab cands n)) en_szCellS n 0 lp_szCellS_0
noncomputable def LL_szRpcS_0 (n : Nat) : Nat → List DV → Option (Sum (InterpA lp_szRpcS_0.2.2) (InterpA en_szRpcS.outC)) := loopF T (callM tab cands (D T tab cands n)) en_szRpcS n 0 lp_szRpcS_0
noncomputable def LL_szCmdS_0 (n : Nat) : Nat → List DV → Option (Sum (InterpA lp_szCmdS_0.2.2) (InterpA en_szCmdS.outC)) := loopF T (callM tab cands (D T tab cands n)) en_szCmdS n 0 lp_szCmdS_0
noncomputable def LL_toStringS_0 (n : Nat) : Nat → List DV → Option (Sum (InterpA lp_toStringS_0.2.2) (InterpA en_toStringS.outC)) := loopF T (callM tab cands (D T tab cands n)) en_toStringS n 0 lp_toStringS_0
noncomputable def LL_toOpS_0 (n : Nat) : Nat → List DV → Option (Sum (InterpA lp_toOpS_0.2.2) (InterpA en_toOpS.outC)) := loopF T (callM tab cands (D T tab cands n)) en_toOpS n 0 lp_toOpS_0
noncomputable def LL_toPeerS_0 (n : Nat) : Nat → List DV → Option (Sum (InterpA lp_toPeerS_0.2.2) (InterpA en_toPeerS.outC)) := loopF T (callM tab cands (D T tab cands n)) en_toPeerS n 0 lp_toPeerS_0
noncomputable def LL_toEntryS_0 (n : Nat) : Nat → List DV → Option (Sum (InterpA lp_toEntryS_0.2.2) (InterpA en_toEntryS.outC)) := loopF T (callM tab cands (D T tab cands n)) en_toEntryS n 0 lp_toEntryS_0
noncomputable def LL_toValS_0 (n : Nat) : Nat → List DV → Option (Sum (InterpA lp_toValS_0.2.2) (InterpA en_toValS.outC)) := loopF T (callM tab cands (D T tab cands n)) en_toValS n 0 lp_toValS_0
noncomputable def LL_toCellS_0 (n : Nat) : Nat → List DV → Option (Sum (InterpA lp_toCellS_0.2.2) (InterpA en_toCellS.outC)) := loopF T (callM tab cands (D T tab cands n)) en_toCellS n 0 lp_toCellS_0
noncomputable def LL_toIntS_0 (n : Nat) : Nat → List DV → Option (Sum (InterpA lp_toIntS_0.2.2) (InterpA en_toIntS.outC)) := loopF T (callM tab cands (D T tab cands n)) en_toIntS n 0 lp_toIntS_0
noncomputable def LL_toBoolS_0 (n : Nat) : Nat → List DV → Option (Sum (InterpA lp_toBoolS_0.2.2) (InterpA en_toBoolS.outC)) := loopF T (callM tab cands (D T tab cands n)) en_toBoolS n 0 lp_toBoolS_0
noncomputable def LL_toByteS_0 (n : Nat) : Nat → List DV → Option (Sum (InterpA lp_toByteS_0.2.2) (InterpA en_toByteS.outC)) := loopF T (callM tab cands (D T tab cands n)) en_toByteS n 0 lp_toByteS_0
noncomputable def LL_toRpcS_0 (n : Nat) : Nat → List DV → Option (Sum (InterpA lp_toRpcS_0.2.2) (InterpA en_toRpcS.outC)) := loopF T (callM tab cands (D T tab cands n)) en_toRpcS n 0 lp_toRpcS_0
noncomputable def LL_toCmdS_0 (n : Nat) : Nat → List DV → Option (Sum (InterpA lp_toCmdS_0.2.2) (InterpA en_toCmdS.outC)) := loopF T (callM tab cands (D T tab cands n)) en_toCmdS n 0 lp_toCmdS_0
noncomputable def LL_sWorldText_0 (n : Nat) : Nat → List DV → Option (Sum (InterpA lp_sWorldText_0.2.2) (InterpA en_sWorldText.outC)) := loopF T (callM tab cands (D T tab cands n)) en_sWorldText n 0 lp_sWorldText_0
noncomputable def LL_sl2Digits_0 (n : Nat) : Nat → List DV → Option (Sum (InterpA lp_sl2Digits_0.2.2) (InterpA en_sl2Digits.outC)) := loopF T (callM tab cands (D T tab cands n)) en_sl2Digits n 0 lp_sl2Digits_0
noncomputable def LL_sl29Nums_0 (n : Nat) : Nat → List DV → Option (Sum (InterpA lp_sl29Nums_0.2.2) (InterpA en_sl29Nums.outC)) := loopF T (callM tab cands (D T tab cands n)) en_sl29Nums n 0 lp_sl29Nums_0
noncomputable def LL_iWorldText_0 (n : Nat) : Nat → List DV → Option (Sum (InterpA lp_iWorldText_0.2.2) (InterpA en_iWorldText.outC)) := loopF T (callM tab cands (D T tab cands n)) en_iWorldText n 0 lp_iWorldText_0
noncomputable def LL_ispaced_0 (n : Nat) : Nat → List DV → Option (Sum (InterpA lp_ispaced_0.2.2) (InterpA en_ispaced.outC)) := loopF T (callM tab cands (D T tab cands n)) en_ispaced n 0 lp_ispaced_0
noncomputable def LL_eqStringS_0 (n : Nat) : Nat → List DV → Option (Sum (InterpA lp_eqStringS_0.2.2) (InterpA en_eqStringS.outC)) := loopF T (callM tab cands (D T tab cands n)) en_eqStringS n 0 lp_eqStringS_0
noncomputable def LL_eqOpS_0 (n : Nat) : Nat → List DV → Option (Sum (InterpA lp_eqOpS_0.2.2) (InterpA en_eqOpS.outC)) := loopF T (callM tab cands (D T tab cands n)) en_eqOpS n 0 lp_eqOpS_0
noncomputable def LL_eqPeerS_0 (n : Nat) : Nat → List DV → Option (Sum (InterpA lp_eqPeerS_0.2.2) (InterpA en_eqPeerS.outC)) := loopF T (callM tab cands (D T tab cands n)) en_eqPeerS n 0 lp_eqPeerS_0
noncomputable def LL_eqEntryS_0 (n : Nat) : Nat → List DV → Option (Sum (InterpA lp_eqEntryS_0.2.2) (InterpA en_eqEntryS.outC)) := loopF T (callM tab cands (D T tab cands n)) en_eqEntryS n 0 lp_eqEntryS_0
noncomputable def LL_eqValS_0 (n : Nat) : Nat → List DV → Option (Sum (InterpA lp_eqValS_0.2.2) (InterpA en_eqValS.outC)) := loopF T (callM tab cands (D T tab cands n)) en_eqValS n 0 lp_eqValS_0
noncomputable def LL_eqCellS_0 (n : Nat) : Nat → List DV → Option (Sum (InterpA lp_eqCellS_0.2.2) (InterpA en_eqCellS.outC)) := loopF T (callM tab cands (D T tab cands n)) en_eqCellS n 0 lp_eqCellS_0
noncomputable def LL_eqIntS_0 (n : Nat) : Nat → List DV → Option (Sum (InterpA lp_eqIntS_0.2.2) (InterpA en_eqIntS.outC)) := loopF T (callM tab cands (D T tab cands n)) en_eqIntS n 0 lp_eqIntS_0
noncomputable def LL_eqBoolS_0 (n : Nat) : Nat → List DV → Option (Sum (InterpA lp_eqBoolS_0.2.2) (InterpA en_eqBoolS.outC)) := loopF T (callM tab cands (D T tab cands n)) en_eqBoolS n 0 lp_eqBoolS_0
noncomputable def LL_eqByteS_0 (n : Nat) : Nat → List DV → Option (Sum (InterpA lp_eqByteS_0.2.2) (InterpA en_eqByteS.outC)) := loopF T (callM tab cands (D T tab cands n)) en_eqByteS n 0 lp_eqByteS_0
noncomputable def LL_eqRpcS_0 (n : Nat) : Nat → List DV → Option (Sum (InterpA lp_eqRpcS_0.2.2) (InterpA en_eqRpcS.outC)) := loopF T (callM tab cands (D T tab cands n)) en_eqRpcS n 0 lp_eqRpcS_0
noncomputable def LL_eqCmdS_0 (n : Nat) : Nat → List DV → Option (Sum (InterpA lp_eqCmdS_0.2.2) (InterpA en_eqCmdS.outC)) := loopF T (callM tab cands (D T tab cands n)) en_eqCmdS n 0 lp_eqCmdS_0
abbrev i_FnExactWorldText : Nat := 0
abbrev i_szWorld : Nat := 1
abbrev i_szProg : Nat := 2
abbrev i_szStringS : Nat := 3
abbrev i_szOpS : Nat := 4
abbrev i_szOp : Nat := 5
abbrev i_szPeerS : Nat := 6
abbrev i_szPeer : Nat := 7
abbrev i_szHard : Nat := 8
abbrev i_szLog : Nat := 9
abbrev i_szEntryS : Nat := 10
abbrev i_szEntry : Nat := 11
abbrev i_szCmd : Nat := 12
abbrev i_szMach : Nat := 13
abbrev i_szState : Nat := 14
abbrev i_szValS : Nat := 15
abbrev i_szVal : Nat := 16
abbrev i_szCellS : Nat := 17
abbrev i_szCell : Nat := 18
abbrev i_szIntS : Nat := 19
abbrev i_szBoolS : Nat := 20
abbrev i_szDisk : Nat := 21
abbrev i_szByteS : Nat := 22
abbrev i_szRpcS : Nat := 23
abbrev i_szRpc : Nat := 24
abbrev i_szSink : Nat := 25
abbrev i_szCmdS : Nat := 26
abbrev i_toWorld : Nat := 27
abbrev i_toProg : Nat := 28
abbrev i_toStringS : Nat := 29
abbrev i_toOpS : Nat := 30
abbrev i_toOp : Nat := 31
abbrev i_toPeerS : Nat := 32
abbrev i_toPeer : Nat := 33
abbrev i_toHard : Nat := 34
abbrev i_toLog : Nat := 35
abbrev i_toEntryS : Nat := 36
abbrev i_toEntry : Nat := 37
abbrev i_toCmd : Nat := 38
abbrev i_toMach : Nat := 39
abbrev i_toState : Nat := 40
abbrev i_toValS : Nat := 41
abbrev i_toVal : Nat := 42
abbrev i_toCellS : Nat := 43
abbrev i_toCell : Nat := 44
abbrev i_toIntS : Nat := 45
abbrev i_toBoolS : Nat := 46
abbrev i_toDisk : Nat := 47
abbrev i_toByteS : Nat := 48
abbrev i_toRpcS : Nat := 49
abbrev i_toRpc : Nat := 50
abbrev i_toSink : Nat := 51
abbrev i_toCmdS : Nat := 52
abbrev i_sWorldText : Nat := 53
abbrev i_sl2Digits : Nat := 54
abbrev i_sPeerText : Nat := 55
abbrev i_sLastOf : Nat := 56
abbrev i_sl29Nums : Nat := 57
abbrev i_sl29Int : Nat := 58
abbrev i_iWorldText : Nat := 59
abbrev i_strconv_Itoa : Nat := 60
abbrev i_iPeerText : Nat := 61
abbrev i_iLastOf : Nat := 62
abbrev i_ispaced : Nat := 63
abbrev i_eqWorld : Nat := 64
abbrev i_eqProg : Nat := 65
abbrev i_eqStringS : Nat := 66
abbrev i_eqOpS : Nat := 67
abbrev i_eqOp : Nat := 68
abbrev i_eqPeerS : Nat := 69
abbrev i_eqPeer : Nat := 70
abbrev i_eqHard : Nat := 71
abbrev i_eqLog : Nat := 72
abbrev i_eqEntryS : Nat := 73
abbrev i_eqEntry : Nat := 74
abbrev i_eqCmd : Nat := 75
abbrev i_eqMach : Nat := 76
abbrev i_eqState : Nat := 77
abbrev i_eqValS : Nat := 78
abbrev i_eqVal : Nat := 79
abbrev i_eqCellS : Nat := 80
abbrev i_eqCell : Nat := 81
abbrev i_eqIntS : Nat := 82
abbrev i_eqBoolS : Nat := 83
abbrev i_eqDisk : Nat := 84
abbrev i_eqByteS : Nat := 85
abbrev i_eqRpcS : Nat := 86
abbrev i_eqRpc : Nat := 87
abbrev i_eqSink : Nat := 88
abbrev i_eqCmdS : Nat := 89
theorem en_FnExactWorldText_ok : EntOk Tryz.prog en_FnExactWorldText := ⟨by kernel_rfl, by kernel_rfl, by kernel_rfl, by kernel_rfl, by kernel_rfl⟩
theorem en_szWorld_ok : EntOk Tryz.prog en_szWorld := ⟨by kernel_rfl, by kernel_rfl, by kernel_rfl, by kernel_rfl, by kernel_rfl⟩
theorem en_szProg_ok : EntOk Tryz.prog en_szProg := ⟨by kernel_rfl, by kernel_rfl, by kernel_rfl, by kernel_rfl, by kernel_rfl⟩
theorem en_szStringS_ok : EntOk Tryz.prog en_szStringS := ⟨by kernel_rfl, by kernel_rfl, by kernel_rfl, by kernel_rfl, by kernel_rfl⟩
theorem en_szOpS_ok : EntOk Tryz.prog en_szOpS := ⟨by kernel_rfl, by kernel_rfl, by kernel_rfl, by kernel_rfl, by kernel_rfl⟩
theorem en_szOp_ok : EntOk Tryz.prog en_szOp := ⟨by kernel_rfl, by kernel_rfl, by kernel_rfl, by kernel_rfl, by kernel_rfl⟩
theorem en_szPeerS_ok : EntOk Tryz.prog en_szPeerS := ⟨by kernel_rfl, by kernel_rfl, by kernel_rfl, by kernel_rfl, by kernel_rfl⟩
theorem en_szPeer_ok : EntOk Tryz.prog en_szPeer := ⟨by kernel_rfl, by kernel_rfl, by kernel_rfl, by kernel_rfl, by kernel_rfl⟩
theorem en_szHard_ok : EntOk Tryz.prog en_szHard := ⟨by kernel_rfl, by kernel_rfl, by kernel_rfl, by kernel_rfl, by kernel_rfl⟩
theorem en_szLog_ok : EntOk Tryz.prog en_szLog := ⟨by kernel_rfl, by kernel_rfl, by kernel_rfl, by kernel_rfl, by kernel_rfl⟩
theorem en_szEntryS_ok : EntOk Tryz.prog en_szEntryS := ⟨by kernel_rfl, by kernel_rfl, by kernel_rfl, by kernel_rfl, by kernel_rfl⟩
theorem en_szEntry_ok : EntOk Tryz.prog en_szEntry := ⟨by kernel_rfl, by kernel_rfl, by kernel_rfl, by kernel_rfl, by kernel_rfl⟩
theorem en_szCmd_ok : EntOk Tryz.prog en_szCmd := ⟨by kernel_rfl, by kernel_rfl, by kernel_rfl, by kernel_rfl, by kernel_rfl⟩
theorem en_szMach_ok : EntOk Tryz.prog en_szMach := ⟨by kernel_rfl, by kernel_rfl, by kernel_rfl, by kernel_rfl, by kernel_rfl⟩
theorem en_szState_ok : EntOk Tryz.prog en_szState := ⟨by kernel_rfl, by kernel_rfl, by kernel_rfl, by kernel_rfl, by kernel_rfl⟩
theorem en_szValS_ok : EntOk Tryz.prog en_szValS := ⟨by kernel_rfl, by kernel_rfl, by kernel_rfl, by kernel_rfl, by kernel_rfl⟩
theorem en_szVal_ok : EntOk Tryz.prog en_szVal := ⟨by kernel_rfl, by kernel_rfl, by kernel_rfl, by kernel_rfl, by kernel_rfl⟩
theorem en_szCellS_ok : EntOk Tryz.prog en_szCellS := ⟨by kernel_rfl, by kernel_rfl, by kernel_rfl, by kernel_rfl, by kernel_rfl⟩
theorem en_szCell_ok : EntOk Tryz.prog en_szCell := ⟨by kernel_rfl, by kernel_rfl, by kernel_rfl, by kernel_rfl, by kernel_rfl⟩
theorem en_szIntS_ok : EntOk Tryz.prog en_szIntS := ⟨by kernel_rfl, by kernel_rfl, by kernel_rfl, by kernel_rfl, by kernel_rfl⟩
theorem en_szBoolS_ok : EntOk Tryz.prog en_szBoolS := ⟨by kernel_rfl, by kernel_rfl, by kernel_rfl, by kernel_rfl, by kernel_rfl⟩
theorem en_szDisk_ok : EntOk Tryz.prog en_szDisk := ⟨by kernel_rfl, by kernel_rfl, by kernel_rfl, by kernel_rfl, by kernel_rfl⟩
theorem en_szByteS_ok : EntOk Tryz.prog en_szByteS := ⟨by kernel_rfl, by kernel_rfl, by kernel_rfl, by kernel_rfl, by kernel_rfl⟩
theorem en_szRpcS_ok : EntOk Tryz.prog en_szRpcS := ⟨by kernel_rfl, by kernel_rfl, by kernel_rfl, by kernel_rfl, by kernel_rfl⟩
theorem en_szRpc_ok : EntOk Tryz.prog en_szRpc := ⟨by kernel_rfl, by kernel_rfl, by kernel_rfl, by kernel_rfl, by kernel_rfl⟩
theorem en_szSink_ok : EntOk Tryz.prog en_szSink := ⟨by kernel_rfl, by kernel_rfl, by kernel_rfl, by kernel_rfl, by kernel_rfl⟩
theorem en_szCmdS_ok : EntOk Tryz.prog en_szCmdS := ⟨by kernel_rfl, by kernel_rfl, by kernel_rfl, by kernel_rfl, by kernel_rfl⟩
theorem en_toWorld_ok : EntOk Tryz.prog en_toWorld := ⟨by kernel_rfl, by kernel_rfl, by kernel_rfl, by kernel_rfl, by kernel_rfl⟩
theorem en_toProg_ok : EntOk Tryz.prog en_toProg := ⟨by kernel_rfl, by kernel_rfl, by kernel_rfl, by kernel_rfl, by kernel_rfl⟩
theorem en_toStringS_ok : EntOk Tryz.prog en_toStringS := ⟨by kernel_rfl, by kernel_rfl, by kernel_rfl, by kernel_rfl, by kernel_rfl⟩
theorem en_toOpS_ok : EntOk Tryz.prog en_toOpS := ⟨by kernel_rfl, by kernel_rfl, by kernel_rfl, by kernel_rfl, by kernel_rfl⟩
theorem en_toOp_ok : EntOk Tryz.prog en_toOp := ⟨by kernel_rfl, by kernel_rfl, by kernel_rfl, by kernel_rfl, by kernel_rfl⟩
theorem en_toPeerS_ok : EntOk Tryz.prog en_toPeerS := ⟨by kernel_rfl, by kernel_rfl, by kernel_rfl, by kernel_rfl, by kernel_rfl⟩
theorem en_toPeer_ok : EntOk Tryz.prog en_toPeer := ⟨by kernel_rfl, by kernel_rfl, by kernel_rfl, by kernel_rfl, by kernel_rfl⟩
theorem en_toHard_ok : EntOk Tryz.prog en_toHard := ⟨by kernel_rfl, by kernel_rfl, by kernel_rfl, by kernel_rfl, by kernel_rfl⟩
theorem en_toLog_ok : EntOk Tryz.prog en_toLog := ⟨by kernel_rfl, by kernel_rfl, by kernel_rfl, by kernel_rfl, by kernel_rfl⟩
theorem en_toEntryS_ok : EntOk Tryz.prog en_toEntryS := ⟨by kernel_rfl, by kernel_rfl, by kernel_rfl, by kernel_rfl, by kernel_rfl⟩
theorem en_toEntry_ok : EntOk Tryz.prog en_toEntry := ⟨by kernel_rfl, by kernel_rfl, by kernel_rfl, by kernel_rfl, by kernel_rfl⟩
theorem en_toCmd_ok : EntOk Tryz.prog en_toCmd := ⟨by kernel_rfl, by kernel_rfl, by kernel_rfl, by kernel_rfl, by kernel_rfl⟩
theorem en_toMach_ok : EntOk Tryz.prog en_toMach := ⟨by kernel_rfl, by kernel_rfl, by kernel_rfl, by kernel_rfl, by kernel_rfl⟩
theorem en_toState_ok : EntOk Tryz.prog en_toState := ⟨by kernel_rfl, by kernel_rfl, by kernel_rfl, by kernel_rfl, by kernel_rfl⟩
theorem en_toValS_ok : EntOk Tryz.prog en_toValS := ⟨by kernel_rfl, by kernel_rfl, by kernel_rfl, by kernel_rfl, by kernel_rfl⟩
theorem en_toVal_ok : EntOk Tryz.prog en_toVal := ⟨by kernel_rfl, by kernel_rfl, by kernel_rfl, by kernel_rfl, by kernel_rfl⟩
theorem en_toCellS_ok : EntOk Tryz.prog en_toCellS := ⟨by kernel_rfl, by kernel_rfl, by kernel_rfl, by kernel_rfl, by kernel_rfl⟩
theorem en_toCell_ok : EntOk Tryz.prog en_toCell := ⟨by kernel_rfl, by kernel_rfl, by kernel_rfl, by kernel_rfl, by kernel_rfl⟩
theorem en_toIntS_ok : EntOk Tryz.prog en_toIntS := ⟨by kernel_rfl, by kernel_rfl, by kernel_rfl, by kernel_rfl, by kernel_rfl⟩
theorem en_toBoolS_ok : EntOk Tryz.prog en_toBoolS := ⟨by kernel_rfl, by kernel_rfl, by kernel_rfl, by kernel_rfl, by kernel_rfl⟩
theorem en_toDisk_ok : EntOk Tryz.prog en_toDisk := ⟨by kernel_rfl, by kernel_rfl, by kernel_rfl, by kernel_rfl, by kernel_rfl⟩
theorem en_toByteS_ok : EntOk Tryz.prog en_toByteS := ⟨by kernel_rfl, by kernel_rfl, by kernel_rfl, by kernel_rfl, by kernel_rfl⟩
theorem en_toRpcS_ok : EntOk Tryz.prog en_toRpcS := ⟨by kernel_rfl, by kernel_rfl, by kernel_rfl, by kernel_rfl, by kernel_rfl⟩
theorem en_toRpc_ok : EntOk Tryz.prog en_toRpc := ⟨by kernel_rfl, by kernel_rfl, by kernel_rfl, by kernel_rfl, by kernel_rfl⟩
theorem en_toSink_ok : EntOk Tryz.prog en_toSink := ⟨by kernel_rfl, by kernel_rfl, by kernel_rfl, by kernel_rfl, by kernel_rfl⟩
theorem en_toCmdS_ok : EntOk Tryz.prog en_toCmdS := ⟨by kernel_rfl, by kernel_rfl, by kernel_rfl, by kernel_rfl, by kernel_rfl⟩
theorem en_sWorldText_ok : EntOk Tryz.prog en_sWorldText := ⟨by kernel_rfl, by kernel_rfl, by kernel_rfl, by kernel_rfl, by kernel_rfl⟩
theorem en_sl2Digits_ok : EntOk Tryz.prog en_sl2Digits := ⟨by kernel_rfl, by kernel_rfl, by kernel_rfl, by kernel_rfl, by kernel_rfl⟩
theorem en_sPeerText_ok : EntOk Tryz.prog en_sPeerText := ⟨by kernel_rfl, by kernel_rfl, by kernel_rfl, by kernel_rfl, by kernel_rfl⟩
theorem en_sLastOf_ok : EntOk Tryz.prog en_sLastOf := ⟨by kernel_rfl, by kernel_rfl, by kernel_rfl, by kernel_rfl, by kernel_rfl⟩
theorem en_sl29Nums_ok : EntOk Tryz.prog en_sl29Nums := ⟨by kernel_rfl, by kernel_rfl, by kernel_rfl, by kernel_rfl, by kernel_rfl⟩
theorem en_sl29Int_ok : EntOk Tryz.prog en_sl29Int := ⟨by kernel_rfl, by kernel_rfl, by kernel_rfl, by kernel_rfl, by kernel_rfl⟩
theorem en_iWorldText_ok : EntOk Tryz.prog en_iWorldText := ⟨by kernel_rfl, by kernel_rfl, by kernel_rfl, by kernel_rfl, by kernel_rfl⟩
theorem en_strconv_Itoa_ok : EntOk Tryz.prog en_strconv_Itoa := ⟨by kernel_rfl, by kernel_rfl, by kernel_rfl, by kernel_rfl, by kernel_rfl⟩
theorem en_iPeerText_ok : EntOk Tryz.prog en_iPeerText := ⟨by kernel_rfl, by kernel_rfl, by kernel_rfl, by kernel_rfl, by kernel_rfl⟩
theorem en_iLastOf_ok : EntOk Tryz.prog en_iLastOf := ⟨by kernel_rfl, by kernel_rfl, by kernel_rfl, by kernel_rfl, by kernel_rfl⟩
theorem en_ispaced_ok : EntOk Tryz.prog en_ispaced := ⟨by kernel_rfl, by kernel_rfl, by kernel_rfl, by kernel_rfl, by kernel_rfl⟩
theorem en_eqWorld_ok : EntOk Tryz.prog en_eqWorld := ⟨by kernel_rfl, by kernel_rfl, by kernel_rfl, by kernel_rfl, by kernel_rfl⟩
theorem en_eqProg_ok : EntOk Tryz.prog en_eqProg := ⟨by kernel_rfl, by kernel_rfl, by kernel_rfl, by kernel_rfl, by kernel_rfl⟩
theorem en_eqStringS_ok : EntOk Tryz.prog en_eqStringS := ⟨by kernel_rfl, by kernel_rfl, by kernel_rfl, by kernel_rfl, by kernel_rfl⟩
theorem en_eqOpS_ok : EntOk Tryz.prog en_eqOpS := ⟨by kernel_rfl, by kernel_rfl, by kernel_rfl, by kernel_rfl, by kernel_rfl⟩
theorem en_eqOp_ok : EntOk Tryz.prog en_eqOp := ⟨by kernel_rfl, by kernel_rfl, by kernel_rfl, by kernel_rfl, by kernel_rfl⟩
theorem en_eqPeerS_ok : EntOk Tryz.prog en_eqPeerS := ⟨by kernel_rfl, by kernel_rfl, by kernel_rfl, by kernel_rfl, by kernel_rfl⟩
theorem en_eqPeer_ok : EntOk Tryz.prog en_eqPeer := ⟨by kernel_rfl, by kernel_rfl, by kernel_rfl, by kernel_rfl, by kernel_rfl⟩
theorem en_eqHard_ok : EntOk Tryz.prog en_eqHard := ⟨by kernel_rfl, by kernel_rfl, by kernel_rfl, by kernel_rfl, by kernel_rfl⟩
theorem en_eqLog_ok : EntOk Tryz.prog en_eqLog := ⟨by kernel_rfl, by kernel_rfl, by kernel_rfl, by kernel_rfl, by kernel_rfl⟩
theorem en_eqEntryS_ok : EntOk Tryz.prog en_eqEntryS := ⟨by kernel_rfl, by kernel_rfl, by kernel_rfl, by kernel_rfl, by kernel_rfl⟩
theorem en_eqEntry_ok : EntOk Tryz.prog en_eqEntry := ⟨by kernel_rfl, by kernel_rfl, by kernel_rfl, by kernel_rfl, by kernel_rfl⟩
theorem en_eqCmd_ok : EntOk Tryz.prog en_eqCmd := ⟨by kernel_rfl, by kernel_rfl, by kernel_rfl, by kernel_rfl, by kernel_rfl⟩
theorem en_eqMach_ok : EntOk Tryz.prog en_eqMach := ⟨by kernel_rfl, by kernel_rfl, by kernel_rfl, by kernel_rfl, by kernel_rfl⟩
theorem en_eqState_ok : EntOk Tryz.prog en_eqState := ⟨by kernel_rfl, by kernel_rfl, by kernel_rfl, by kernel_rfl, by kernel_rfl⟩
theorem en_eqValS_ok : EntOk Tryz.prog en_eqValS := ⟨by kernel_rfl, by kernel_rfl, by kernel_rfl, by kernel_rfl, by kernel_rfl⟩
theorem en_eqVal_ok : EntOk Tryz.prog en_eqVal := ⟨by kernel_rfl, by kernel_rfl, by kernel_rfl, by kernel_rfl, by kernel_rfl⟩
theorem en_eqCellS_ok : EntOk Tryz.prog en_eqCellS := ⟨by kernel_rfl, by kernel_rfl, by kernel_rfl, by kernel_rfl, by kernel_rfl⟩
theorem en_eqCell_ok : EntOk Tryz.prog en_eqCell := ⟨by kernel_rfl, by kernel_rfl, by kernel_rfl, by kernel_rfl, by kernel_rfl⟩
theorem en_eqIntS_ok : EntOk Tryz.prog en_eqIntS := ⟨by kernel_rfl, by kernel_rfl, by kernel_rfl, by kernel_rfl, by kernel_rfl⟩
theorem en_eqBoolS_ok : EntOk Tryz.prog en_eqBoolS := ⟨by kernel_rfl, by kernel_rfl, by kernel_rfl, by kernel_rfl, by kernel_rfl⟩
theorem en_eqDisk_ok : EntOk Tryz.prog en_eqDisk := ⟨by kernel_rfl, by kernel_rfl, by kernel_rfl, by kernel_rfl, by kernel_rfl⟩
theorem en_eqByteS_ok : EntOk Tryz.prog en_eqByteS := ⟨by kernel_rfl, by kernel_rfl, by kernel_rfl, by kernel_rfl, by kernel_rfl⟩
theorem en_eqRpcS_ok : EntOk Tryz.prog en_eqRpcS := ⟨by kernel_rfl, by kernel_rfl, by kernel_rfl, by kernel_rfl, by kernel_rfl⟩
theorem en_eqRpc_ok : EntOk Tryz.prog en_eqRpc := ⟨by kernel_rfl, by kernel_rfl, by kernel_rfl, by kernel_rfl, by kernel_rfl⟩
theorem en_eqSink_ok : EntOk Tryz.prog en_eqSink := ⟨by kernel_rfl, by kernel_rfl, by kernel_rfl, by kernel_rfl, by kernel_rfl⟩
theorem en_eqCmdS_ok : EntOk Tryz.prog en_eqCmdS := ⟨by kernel_rfl, by kernel_rfl, by kernel_rfl, by kernel_rfl, by kernel_rfl⟩
theorem tys_ok : tysB Tryz.prog tys = true := by kernel_rfl
theorem ents_ok : Ents Tryz.prog tabL := .cons en_FnExactWorldText_ok (.cons en_szWorld_ok (.cons en_szProg_ok (.cons en_szStringS_ok (.cons en_szOpS_ok (.cons en_szOp_ok (.cons en_szPeerS_ok (.cons en_szPeer_ok (.cons en_szHard_ok (.cons en_szLog_ok (.cons en_szEntryS_ok (.cons en_szEntry_ok (.cons en_szCmd_ok (.cons en_szMach_ok (.cons en_szState_ok (.cons en_szValS_ok (.cons en_szVal_ok (.cons en_szCellS_ok (.cons en_szCell_ok (.cons en_szIntS_ok (.cons en_szBoolS_ok (.cons en_szDisk_ok (.cons en_szByteS_ok (.cons en_szRpcS_ok (.cons en_szRpc_ok (.cons en_szSink_ok (.cons en_szCmdS_ok (.cons en_toWorld_ok (.cons en_toProg_ok (.cons en_toStringS_ok (.cons en_toOpS_ok (.cons en_toOp_ok (.cons en_toPeerS_ok (.cons en_toPeer_ok (.cons en_toHard_ok (.cons en_toLog_ok (.cons en_toEntryS_ok (.cons en_toEntry_ok (.cons en_toCmd_ok (.cons en_toMach_ok (.cons en_toState_ok (.cons en_toValS_ok (.cons en_toVal_ok (.cons en_toCellS_ok (.cons en_toCell_ok (.cons en_toIntS_ok (.cons en_toBoolS_ok (.cons en_toDisk_ok (.cons en_toByteS_ok (.cons en_toRpcS_ok (.cons en_toRpc_ok (.cons en_toSink_ok (.cons en_toCmdS_ok (.cons en_sWorldText_ok (.cons en_sl2Digits_ok (.cons en_sPeerText_ok (.cons en_sLastOf_ok (.cons en_sl29Nums_ok (.cons en_sl29Int_ok (.cons en_iWorldText_ok (.cons en_strconv_Itoa_ok (.cons en_iPeerText_ok (.cons en_iLastOf_ok (.cons en_ispaced_ok (.cons en_eqWorld_ok (.cons en_eqProg_ok (.cons en_eqStringS_ok (.cons en_eqOpS_ok (.cons en_eqOp_ok (.cons en_eqPeerS_ok (.cons en_eqPeer_ok (.cons en_eqHard_ok (.cons en_eqLog_ok (.cons en_eqEntryS_ok (.cons en_eqEntry_ok (.cons en_eqCmd_ok (.cons en_eqMach_ok (.cons en_eqState_ok (.cons en_eqValS_ok (.cons en_eqVal_ok (.cons en_eqCellS_ok (.cons en_eqCell_ok (.cons en_eqIntS_ok (.cons en_eqBoolS_ok (.cons en_eqDisk_ok (.cons en_eqByteS_ok (.cons en_eqRpcS_ok (.cons en_eqRpc_ok (.cons en_eqSink_ok (.cons en_eqCmdS_ok Ents.nil)))))))))))))))))))))))))))))))))))))))))))))))))))))))))))))))))))))))))))))))))))))))))
end Go.Proofs.YtmabfdnconccnaaGreatDoor
