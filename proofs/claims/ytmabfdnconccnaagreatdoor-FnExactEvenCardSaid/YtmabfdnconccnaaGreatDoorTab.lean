/- Entries of the functions, and the closed facts about them. -/
import Derived.Test.YtmabfdnconccnaaGreatDoorEv4
import Derived.Test.YtmabfdnconccnaaGreatDoorProg
import Derived.KernelRfl
namespace Go.Proofs.YtmabfdnconccnaaGreatDoor
open Go Go.Ev
@[reducible] def c_s : CT := (.sl (.one .str))
@[reducible] def c_b : CT := (.sl (.one .bool))
@[reducible] def c_u : CT := (.sl (.one (.int .u8)))
@[reducible] def c_i : CT := (.sl (.one (.int .i64)))
@[reducible] def c_iis : CT := (.sl (.cons (.int .i64) (.cons (.int .i64) (.one .str))))
@[reducible] def c_Tiisb : CT := (.tree (.cons (.int .i64) (.cons (.int .i64) (.cons .str (.one .bool)))))
@[reducible] def c_iiis : CT := (.sl (.cons (.int .i64) (.cons (.int .i64) (.cons (.int .i64) (.one .str)))))
@[reducible] def c_isiis : CT := (.sl (.cons (.int .i64) (.cons .str (.cons (.int .i64) (.cons (.int .i64) (.one .str))))))
@[reducible] def c_q1 : CT := (.sl (.cons (.int .i64) (.cons (.int .i64) (.cons (.int .i64) (.cons (.int .i64) (.cons (.int .i64) (.cons (.int .i64) (.cons (.int .i64) (.cons c_iiis (.cons .bool (.one .str)))))))))))
@[reducible] def c_q0 : CT := (.sl (.cons (.int .i64) (.cons (.int .i64) (.cons (.int .i64) (.cons (.int .i64) (.cons (.int .i64) (.cons c_iiis (.cons c_iis (.cons c_isiis (.cons (.int .i64) (.cons (.int .i64) (.cons c_i (.cons .str (.cons (.int .i64) (.cons c_b (.cons c_i (.cons c_i (.cons (.int .i64) (.cons c_iis (.cons c_isiis (.cons (.int .i64) (.cons (.int .i64) (.cons c_i (.cons .str (.cons c_u (.cons (.int .i64) (.one c_q1)))))))))))))))))))))))))))
abbrev t_i : Type := List Int
abbrev t_b : Type := List Bool
abbrev t_s : Type := List Bytes
abbrev t_u : Type := List UInt8
abbrev e_iis : Type := Int × (Int × Bytes)
abbrev t_iis : Type := List e_iis
abbrev e_iiis : Type := Int × e_iis
abbrev e_Tiisb : Type := Int × (Int × (Bytes × Bool))
abbrev t_iiis : Type := List e_iiis
abbrev e_isiis : Type := Int × (Bytes × e_iis)
abbrev t_Tiisb : Type := List (RT e_Tiisb)
abbrev t_isiis : Type := List e_isiis
abbrev e_q1 : Type := Int × (Int × (Int × (Int × (Int × (Int × (Int × (t_iiis × (Bool × Bytes))))))))
abbrev t_q1 : Type := List e_q1
abbrev e_q0 : Type := Int × (Int × (Int × (Int × (Int × (t_iiis × (t_iis × (t_isiis × (Int × (Int × (t_i × (Bytes × (Int × (t_b × (t_i × (t_i × (Int × (t_iis × (t_isiis × (Int × (Int × (t_i × (Bytes × (t_u × (Int × t_q1))))))))))))))))))))))))
abbrev t_q0 : Type := List e_q0
def TZ_Tiisb (xs : t_Tiisb) (i : Int) : Option (Int × (Int × (Bytes × (Bool × (t_Tiisb))))) := getZ c_Tiisb xs i
def TN_Tiisb (xs : t_Tiisb) (i : Nat) : Option (Int × (Int × (Bytes × (Bool × (t_Tiisb))))) := getI c_Tiisb xs i
def TM_Tiisb (e : Int × (Int × (Bytes × (Bool × (t_Tiisb))))) : RT e_Tiisb := toRT (ftsOf c_Tiisb) e
def tys : List (TypeId × TyI) := [
  (3, ⟨.int .i64, 1, 8, [.i .i64 0], some (.one (.int .i64)), false⟩),
  (4, ⟨.bool, 1, 1, [.b false], some (.one .bool), false⟩),
  (5, ⟨.int .u8, 1, 1, [.i .u8 0], some (.one (.int .u8)), false⟩),
  (9, ⟨.str, 1, 16, [.s []], some (.one .str), false⟩),
  (22, ⟨.slice 9, 1, 24, [.nl], some (.one c_s), false⟩),
  (23, ⟨.slice 144, 1, 24, [.nl], some (.one c_iis), false⟩),
  (25, ⟨.struct [(0, 22), (1, 22), (2, 23), (3, 23)], 4, 96, [.nl, .nl, .nl, .nl], some (.cons c_s (.cons c_s (.cons c_iis (.one c_iis)))), false⟩),
  (26, ⟨.slice 109, 1, 24, [.nl], some (.one c_q0), false⟩),
  (27, ⟨.slice 112, 1, 24, [.nl], some (.one c_q1), false⟩),
  (29, ⟨.struct [(0, 3), (1, 9)], 2, 24, [.i .i64 0, .s []], some (.cons (.int .i64) (.one .str)), false⟩),
  (30, ⟨.slice 3, 1, 24, [.nl], some (.one c_i), false⟩),
  (31, ⟨.slice 115, 1, 24, [.nl], some (.one c_iis), false⟩),
  (33, ⟨.struct [(0, 25), (4, 3), (5, 26), (6, 27), (7, 29), (9, 30), (10, 30), (11, 31)], 12, 248, [.nl, .nl, .nl, .nl, .i .i64 0, .nl, .nl, .i .i64 0, .s [], .nl, .nl, .nl], some (.cons c_s (.cons c_s (.cons c_iis (.cons c_iis (.cons (.int .i64) (.cons c_q0 (.cons c_q1 (.cons (.int .i64) (.cons .str (.cons c_i (.cons c_i (.one c_iis)))))))))))), false⟩),
  (36, ⟨.slice 150, 1, 24, [.nl], some (.one c_iis), false⟩),
  (38, ⟨.struct [(0, 22), (1, 22), (2, 36), (3, 36)], 4, 96, [.nl, .nl, .nl, .nl], some (.cons c_s (.cons c_s (.cons c_iis (.one c_iis)))), false⟩),
  (39, ⟨.slice 76, 1, 24, [.nl], some (.one c_q0), false⟩),
  (40, ⟨.slice 121, 1, 24, [.nl], some (.one c_q1), false⟩),
  (41, ⟨.struct [(0, 3), (1, 9)], 2, 24, [.i .i64 0, .s []], some (.cons (.int .i64) (.one .str)), false⟩),
  (42, ⟨.slice 123, 1, 24, [.nl], some (.one c_iis), false⟩),
  (44, ⟨.struct [(0, 38), (4, 3), (5, 39), (6, 40), (7, 41), (9, 30), (10, 30), (11, 42)], 12, 248, [.nl, .nl, .nl, .nl, .i .i64 0, .nl, .nl, .i .i64 0, .s [], .nl, .nl, .nl], some (.cons c_s (.cons c_s (.cons c_iis (.cons c_iis (.cons (.int .i64) (.cons c_q0 (.cons c_q1 (.cons (.int .i64) (.cons .str (.cons c_i (.cons c_i (.one c_iis)))))))))))), false⟩),
  (60, ⟨.slice 141, 1, 24, [.nl], some (.one c_iiis), false⟩),
  (62, ⟨.struct [(0, 3), (1, 3), (2, 60)], 3, 40, [.i .i64 0, .i .i64 0, .nl], some (.cons (.int .i64) (.cons (.int .i64) (.one c_iiis))), false⟩),
  (63, ⟨.slice 230, 1, 24, [.nl], some (.one c_iis), false⟩),
  (64, ⟨.slice 232, 1, 24, [.nl], some (.one c_isiis), false⟩),
  (66, ⟨.struct [(0, 63), (1, 64), (2, 3), (3, 3)], 4, 64, [.nl, .nl, .i .i64 0, .i .i64 0], some (.cons c_iis (.cons c_isiis (.cons (.int .i64) (.one (.int .i64))))), false⟩),
  (68, ⟨.struct [(0, 66), (4, 30), (5, 9)], 6, 104, [.nl, .nl, .i .i64 0, .i .i64 0, .nl, .s []], some (.cons c_iis (.cons c_isiis (.cons (.int .i64) (.cons (.int .i64) (.cons c_i (.one .str)))))), false⟩),
  (70, ⟨.struct [(0, 3), (1, 3), (2, 62), (5, 68)], 11, 160, [.i .i64 0, .i .i64 0, .i .i64 0, .i .i64 0, .nl, .nl, .nl, .i .i64 0, .i .i64 0, .nl, .s []], some (.cons (.int .i64) (.cons (.int .i64) (.cons (.int .i64) (.cons (.int .i64) (.cons c_iiis (.cons c_iis (.cons c_isiis (.cons (.int .i64) (.cons (.int .i64) (.cons c_i (.one .str))))))))))), false⟩),
  (71, ⟨.slice 4, 1, 24, [.nl], some (.one c_b), false⟩),
  (72, ⟨.slice 5, 1, 24, [.nl], some (.one c_u), false⟩),
  (74, ⟨.struct [(0, 72), (1, 3)], 2, 32, [.nl, .i .i64 0], some (.cons c_u (.one (.int .i64))), false⟩),
  (76, ⟨.struct [(0, 3), (1, 70), (12, 3), (13, 71), (14, 30), (15, 30), (16, 3), (17, 68), (23, 74), (25, 40)], 26, 416, [.i .i64 0, .i .i64 0, .i .i64 0, .i .i64 0, .i .i64 0, .nl, .nl, .nl, .i .i64 0, .i .i64 0, .nl, .s [], .i .i64 0, .nl, .nl, .nl, .i .i64 0, .nl, .nl, .i .i64 0, .i .i64 0, .nl, .s [], .nl, .i .i64 0, .nl], some (.cons (.int .i64) (.cons (.int .i64) (.cons (.int .i64) (.cons (.int .i64) (.cons (.int .i64) (.cons c_iiis (.cons c_iis (.cons c_isiis (.cons (.int .i64) (.cons (.int .i64) (.cons c_i (.cons .str (.cons (.int .i64) (.cons c_b (.cons c_i (.cons c_i (.cons (.int .i64) (.cons c_iis (.cons c_isiis (.cons (.int .i64) (.cons (.int .i64) (.cons c_i (.cons .str (.cons c_u (.cons (.int .i64) (.one c_q1)))))))))))))))))))))))))), false⟩),
  (96, ⟨.slice 182, 1, 24, [.nl], some (.one c_iiis), false⟩),
  (98, ⟨.struct [(0, 3), (1, 3), (2, 96)], 3, 40, [.i .i64 0, .i .i64 0, .nl], some (.cons (.int .i64) (.cons (.int .i64) (.one c_iiis))), false⟩),
  (99, ⟨.slice 243, 1, 24, [.nl], some (.one c_iis), false⟩),
  (100, ⟨.slice 246, 1, 24, [.nl], some (.one c_isiis), false⟩),
  (102, ⟨.struct [(0, 99), (1, 100), (2, 3), (3, 3)], 4, 64, [.nl, .nl, .i .i64 0, .i .i64 0], some (.cons c_iis (.cons c_isiis (.cons (.int .i64) (.one (.int .i64))))), false⟩),
  (104, ⟨.struct [(0, 102), (4, 30), (5, 9)], 6, 104, [.nl, .nl, .i .i64 0, .i .i64 0, .nl, .s []], some (.cons c_iis (.cons c_isiis (.cons (.int .i64) (.cons (.int .i64) (.cons c_i (.one .str)))))), false⟩),
  (106, ⟨.struct [(0, 3), (1, 3), (2, 98), (5, 104)], 11, 160, [.i .i64 0, .i .i64 0, .i .i64 0, .i .i64 0, .nl, .nl, .nl, .i .i64 0, .i .i64 0, .nl, .s []], some (.cons (.int .i64) (.cons (.int .i64) (.cons (.int .i64) (.cons (.int .i64) (.cons c_iiis (.cons c_iis (.cons c_isiis (.cons (.int .i64) (.cons (.int .i64) (.cons c_i (.one .str))))))))))), false⟩),
  (107, ⟨.struct [(0, 72), (1, 3)], 2, 32, [.nl, .i .i64 0], some (.cons c_u (.one (.int .i64))), false⟩),
  (109, ⟨.struct [(0, 3), (1, 106), (12, 3), (13, 71), (14, 30), (15, 30), (16, 3), (17, 104), (23, 107), (25, 27)], 26, 416, [.i .i64 0, .i .i64 0, .i .i64 0, .i .i64 0, .i .i64 0, .nl, .nl, .nl, .i .i64 0, .i .i64 0, .nl, .s [], .i .i64 0, .nl, .nl, .nl, .i .i64 0, .nl, .nl, .i .i64 0, .i .i64 0, .nl, .s [], .nl, .i .i64 0, .nl], some (.cons (.int .i64) (.cons (.int .i64) (.cons (.int .i64) (.cons (.int .i64) (.cons (.int .i64) (.cons c_iiis (.cons c_iis (.cons c_isiis (.cons (.int .i64) (.cons (.int .i64) (.cons c_i (.cons .str (.cons (.int .i64) (.cons c_b (.cons c_i (.cons c_i (.cons (.int .i64) (.cons c_iis (.cons c_isiis (.cons (.int .i64) (.cons (.int .i64) (.cons c_i (.cons .str (.cons c_u (.cons (.int .i64) (.one c_q1)))))))))))))))))))))))))), false⟩),
  (112, ⟨.struct [(0, 3), (1, 3), (2, 3), (3, 3), (4, 3), (5, 3), (6, 3), (7, 96), (8, 4), (9, 9)], 10, 104, [.i .i64 0, .i .i64 0, .i .i64 0, .i .i64 0, .i .i64 0, .i .i64 0, .i .i64 0, .nl, .b false, .s []], some (.cons (.int .i64) (.cons (.int .i64) (.cons (.int .i64) (.cons (.int .i64) (.cons (.int .i64) (.cons (.int .i64) (.cons (.int .i64) (.cons c_iiis (.cons .bool (.one .str)))))))))), false⟩),
  (115, ⟨.struct [(0, 3), (1, 3), (2, 9)], 3, 32, [.i .i64 0, .i .i64 0, .s []], some (.cons (.int .i64) (.cons (.int .i64) (.one .str))), false⟩),
  (121, ⟨.struct [(0, 3), (1, 3), (2, 3), (3, 3), (4, 3), (5, 3), (6, 3), (7, 60), (8, 4), (9, 9)], 10, 104, [.i .i64 0, .i .i64 0, .i .i64 0, .i .i64 0, .i .i64 0, .i .i64 0, .i .i64 0, .nl, .b false, .s []], some (.cons (.int .i64) (.cons (.int .i64) (.cons (.int .i64) (.cons (.int .i64) (.cons (.int .i64) (.cons (.int .i64) (.cons (.int .i64) (.cons c_iiis (.cons .bool (.one .str)))))))))), false⟩),
  (123, ⟨.struct [(0, 3), (1, 3), (2, 9)], 3, 32, [.i .i64 0, .i .i64 0, .s []], some (.cons (.int .i64) (.cons (.int .i64) (.one .str))), false⟩),
  (141, ⟨.struct [(0, 3), (1, 123)], 4, 40, [.i .i64 0, .i .i64 0, .i .i64 0, .s []], some (.cons (.int .i64) (.cons (.int .i64) (.cons (.int .i64) (.one .str)))), false⟩),
  (144, ⟨.struct [(0, 3), (1, 3), (2, 9)], 3, 32, [.i .i64 0, .i .i64 0, .s []], some (.cons (.int .i64) (.cons (.int .i64) (.one .str))), false⟩),
  (150, ⟨.struct [(0, 3), (1, 3), (2, 9)], 3, 32, [.i .i64 0, .i .i64 0, .s []], some (.cons (.int .i64) (.cons (.int .i64) (.one .str))), false⟩),
  (182, ⟨.struct [(0, 3), (1, 115)], 4, 40, [.i .i64 0, .i .i64 0, .i .i64 0, .s []], some (.cons (.int .i64) (.cons (.int .i64) (.cons (.int .i64) (.one .str)))), false⟩),
  (223, ⟨.slice 225, 1, 24, [.nl], some (.one c_Tiisb), false⟩),
  (225, ⟨.struct [(0, 3), (1, 3), (2, 9), (3, 4), (4, 223)], 5, 64, [.i .i64 0, .i .i64 0, .s [], .b false, .nl], some (.cons (.int .i64) (.cons (.int .i64) (.cons .str (.cons .bool (.one c_Tiisb))))), false⟩),
  (230, ⟨.struct [(0, 3), (1, 3), (2, 9)], 3, 32, [.i .i64 0, .i .i64 0, .s []], some (.cons (.int .i64) (.cons (.int .i64) (.one .str))), false⟩),
  (232, ⟨.struct [(0, 3), (1, 9), (2, 230)], 5, 56, [.i .i64 0, .s [], .i .i64 0, .i .i64 0, .s []], some (.cons (.int .i64) (.cons .str (.cons (.int .i64) (.cons (.int .i64) (.one .str))))), false⟩),
  (243, ⟨.struct [(0, 3), (1, 3), (2, 9)], 3, 32, [.i .i64 0, .i .i64 0, .s []], some (.cons (.int .i64) (.cons (.int .i64) (.one .str))), false⟩),
  (246, ⟨.struct [(0, 3), (1, 9), (2, 243)], 5, 56, [.i .i64 0, .s [], .i .i64 0, .i .i64 0, .s []], some (.cons (.int .i64) (.cons .str (.cons (.int .i64) (.cons (.int .i64) (.one .str))))), false⟩),
  (254, ⟨.struct [(0, 9), (1, 3), (2, 4)], 3, 32, [.s [], .i .i64 0, .b false], some (.cons .str (.cons (.int .i64) (.one .bool))), false⟩),
  (267, ⟨.struct [(0, 9), (1, 4)], 2, 24, [.s [], .b false], some (.cons .str (.one .bool)), false⟩)]
def T (t : TypeId) : Option TyI := lookT t tys
def lp_szStringS_0 : Gam × Gam × List CT := (⟨[(5, .one (.int .i64)), (0, .one (.sh c_s)), (1, .one (.int .i64))], []⟩, ⟨[(1, .one (.int .i64))], []⟩, [(.int .i64)])
def lp_szOpS_0 : Gam × Gam × List CT := (⟨[(5, .one (.int .i64)), (1, .one (.int .i64)), (0, .one (.sh c_iis))], []⟩, ⟨[(1, .one (.int .i64))], []⟩, [(.int .i64)])
def lp_szPeerS_0 : Gam × Gam × List CT := (⟨[(5, .one (.int .i64)), (1, .one (.int .i64)), (0, .one (.sh c_q0))], []⟩, ⟨[(1, .one (.int .i64))], []⟩, [(.int .i64)])
def lp_szEntryS_0 : Gam × Gam × List CT := (⟨[(5, .one (.int .i64)), (1, .one (.int .i64)), (0, .one (.sh c_iiis))], []⟩, ⟨[(1, .one (.int .i64))], []⟩, [(.int .i64)])
def lp_szValS_0 : Gam × Gam × List CT := (⟨[(5, .one (.int .i64)), (1, .one (.int .i64)), (0, .one (.sh c_iis))], []⟩, ⟨[(1, .one (.int .i64))], []⟩, [(.int .i64)])
def lp_szCellS_0 : Gam × Gam × List CT := (⟨[(5, .one (.int .i64)), (1, .one (.int .i64)), (0, .one (.sh c_isiis))], []⟩, ⟨[(1, .one (.int .i64))], []⟩, [(.int .i64)])
def lp_szRpcS_0 : Gam × Gam × List CT := (⟨[(5, .one (.int .i64)), (1, .one (.int .i64)), (0, .one (.sh c_q1))], []⟩, ⟨[(1, .one (.int .i64))], []⟩, [(.int .i64)])
def lp_szCmdS_0 : Gam × Gam × List CT := (⟨[(5, .one (.int .i64)), (1, .one (.int .i64)), (0, .one (.sh c_iis))], []⟩, ⟨[(1, .one (.int .i64))], []⟩, [(.int .i64)])
def lp_toStringS_0 : Gam × Gam × List CT := (⟨[(4, .one (.int .i64)), (0, .one (.sh c_s)), (3, .one (.own c_s))], []⟩, ⟨[(3, .one (.own c_s))], []⟩, [c_s])
def lp_toOpS_0 : Gam × Gam × List CT := (⟨[(4, .one (.int .i64)), (0, .one (.sh c_iis)), (3, .one (.own c_iis))], []⟩, ⟨[(3, .one (.own c_iis))], []⟩, [c_iis])
def lp_toPeerS_0 : Gam × Gam × List CT := (⟨[(4, .one (.int .i64)), (0, .one (.sh c_q0)), (3, .one (.own c_q0))], []⟩, ⟨[(3, .one (.own c_q0))], []⟩, [c_q0])
def lp_toEntryS_0 : Gam × Gam × List CT := (⟨[(4, .one (.int .i64)), (0, .one (.sh c_iiis)), (3, .one (.own c_iiis))], []⟩, ⟨[(3, .one (.own c_iiis))], []⟩, [c_iiis])
def lp_toValS_0 : Gam × Gam × List CT := (⟨[(4, .one (.int .i64)), (0, .one (.sh c_iis)), (3, .one (.own c_iis))], []⟩, ⟨[(3, .one (.own c_iis))], []⟩, [c_iis])
def lp_toCellS_0 : Gam × Gam × List CT := (⟨[(4, .one (.int .i64)), (0, .one (.sh c_isiis)), (3, .one (.own c_isiis))], []⟩, ⟨[(3, .one (.own c_isiis))], []⟩, [c_isiis])
def lp_toIntS_0 : Gam × Gam × List CT := (⟨[(4, .one (.int .i64)), (0, .one (.sh c_i)), (3, .one (.own c_i))], []⟩, ⟨[(3, .one (.own c_i))], []⟩, [c_i])
def lp_toBoolS_0 : Gam × Gam × List CT := (⟨[(4, .one (.int .i64)), (0, .one (.sh c_b)), (3, .one (.own c_b))], []⟩, ⟨[(3, .one (.own c_b))], []⟩, [c_b])
def lp_toByteS_0 : Gam × Gam × List CT := (⟨[(4, .one (.int .i64)), (0, .one (.sh c_u)), (3, .one (.own c_u))], []⟩, ⟨[(3, .one (.own c_u))], []⟩, [c_u])
def lp_toRpcS_0 : Gam × Gam × List CT := (⟨[(4, .one (.int .i64)), (0, .one (.sh c_q1)), (3, .one (.own c_q1))], []⟩, ⟨[(3, .one (.own c_q1))], []⟩, [c_q1])
def lp_toCmdS_0 : Gam × Gam × List CT := (⟨[(4, .one (.int .i64)), (0, .one (.sh c_iis)), (3, .one (.own c_iis))], []⟩, ⟨[(3, .one (.own c_iis))], []⟩, [c_iis])
def lp_sLeader_0 : Gam × Gam × List CT := (⟨[(4, .one (.int .i64)), (3, .one (.int .i64)), (1, .one (.pb 1 0))], [(1, [(.sh c_s), (.sh c_s), (.sh c_iis), (.sh c_iis), (.int .i64), (.sh c_q0), (.sh c_q1), (.int .i64), .str, (.sh c_i), (.sh c_i), (.sh c_iis)])]⟩, ⟨[(3, .one (.int .i64))], []⟩, [(.int .i64)])
def lp_sWorldOk_0 : Gam × Gam × List CT := (⟨[(3, .one (.int .i64)), (1, .one (.pb 1 0))], [(1, [(.sh c_s), (.sh c_s), (.sh c_iis), (.sh c_iis), (.int .i64), (.sh c_q0), (.sh c_q1), (.int .i64), .str, (.sh c_i), (.sh c_i), (.sh c_iis)])]⟩, ⟨[(1, .one (.pb 1 0))], [(1, [(.sh c_s), (.sh c_s), (.sh c_iis), (.sh c_iis), (.int .i64), (.sh c_q0), (.sh c_q1), (.int .i64), .str, (.sh c_i), (.sh c_i), (.sh c_iis)])]⟩, [c_s, c_s, c_iis, c_iis, (.int .i64), c_q0, c_q1, (.int .i64), .str, c_i, c_i, c_iis])
def lp_sWorldOk_2 : Gam × Gam × List CT := (⟨[(4, .one (.int .i64)), (1, .one (.pb 1 0))], [(1, [(.sh c_s), (.sh c_s), (.sh c_iis), (.sh c_iis), (.int .i64), (.sh c_q0), (.sh c_q1), (.int .i64), .str, (.sh c_i), (.sh c_i), (.sh c_iis)])]⟩, ⟨[(1, .one (.pb 1 0))], [(1, [(.sh c_s), (.sh c_s), (.sh c_iis), (.sh c_iis), (.int .i64), (.sh c_q0), (.sh c_q1), (.int .i64), .str, (.sh c_i), (.sh c_i), (.sh c_iis)])]⟩, [c_s, c_s, c_iis, c_iis, (.int .i64), c_q0, c_q1, (.int .i64), .str, c_i, c_i, c_iis])
def lp_sWorldOk_4 : Gam × Gam × List CT := (⟨[(5, .one (.int .i64)), (1, .one (.pb 1 0))], [(1, [(.sh c_s), (.sh c_s), (.sh c_iis), (.sh c_iis), (.int .i64), (.sh c_q0), (.sh c_q1), (.int .i64), .str, (.sh c_i), (.sh c_i), (.sh c_iis)])]⟩, ⟨[], []⟩, [])
def lp_sProgOk_0 : Gam × Gam × List CT := (⟨[(3, .one (.int .i64)), (1, .one (.pb 1 0))], [(1, [(.sh c_s), (.sh c_s), (.sh c_iis), (.sh c_iis)])]⟩, ⟨[(1, .one (.pb 1 0))], [(1, [(.sh c_s), (.sh c_s), (.sh c_iis), (.sh c_iis)])]⟩, [c_s, c_s, c_iis, c_iis])
def lp_sProgOk_2 : Gam × Gam × List CT := (⟨[(4, .one (.int .i64)), (1, .one (.pb 1 0))], [(1, [(.sh c_s), (.sh c_s), (.sh c_iis), (.sh c_iis)])]⟩, ⟨[(1, .one (.pb 1 0))], [(1, [(.sh c_s), (.sh c_s), (.sh c_iis), (.sh c_iis)])]⟩, [c_s, c_s, c_iis, c_iis])
def lp_sl9Name_0 : Gam × Gam × List CT := (⟨[(3, .one (.int .i64)), (0, .one .str)], []⟩, ⟨[(0, .one .str)], []⟩, [.str])
def lp_sl7Within_0 : Gam × Gam × List CT := (⟨[(5, .one (.int .i64)), (1, .one .str), (0, .one (.sh c_s))], []⟩, ⟨[], []⟩, [])
def lp_sOpsOk_0 : Gam × Gam × List CT := (⟨[(8, .one (.int .i64)), (2, .one (.int .i64)), (1, .one (.int .i64)), (7, .one (.int .i64)), (0, .one (.sh c_iis))], []⟩, ⟨[], []⟩, [])
def lp_sl3Pattern_0 : Gam × Gam × List CT := (⟨[(1, .one (.int .i64)), (0, .one (.pb 5000 0)), (5, .one (.own c_Tiisb)), (4, .one (.pb 4 0))], [(5000, [.str, (.int .i64), .bool]), (4, [(.int .i64), (.int .i64), .str, .bool, .nl])]⟩, ⟨[(4, .one (.pb 4 0)), (5, .one (.own c_Tiisb))], [(5000, [.str, (.int .i64), .bool]), (4, [(.int .i64), (.int .i64), .str, .bool, .nl])]⟩, [.str, (.int .i64), .bool, (.int .i64), (.int .i64), .str, .bool, c_Tiisb])
def lp_sl3Part_0 : Gam × Gam × List CT := (⟨[(1, .one (.int .i64)), (0, .one (.pb 5000 0)), (5, .one (.own c_Tiisb)), (4, .one (.pb 4 0))], [(5000, [.str, (.int .i64), .bool]), (4, [(.int .i64), (.int .i64), .str, .bool, .nl])]⟩, ⟨[(4, .one (.pb 4 0)), (5, .one (.own c_Tiisb))], [(5000, [.str, (.int .i64), .bool]), (4, [(.int .i64), (.int .i64), .str, .bool, .nl])]⟩, [.str, (.int .i64), .bool, (.int .i64), (.int .i64), .str, .bool, c_Tiisb])
def lp_sl3Piece_0 : Gam × Gam × List CT := (⟨[(4, .one (.pb 4 0)), (5, .one (.pb 5 0)), (0, .one (.pb 5000 0))], [(5000, [.str, (.int .i64), .bool]), (4, [(.int .i64), (.int .i64), .str, .bool, .nl]), (5, [(.int .i64), (.int .i64), .str, .bool, (.own c_Tiisb)])]⟩, ⟨[(4, .one (.pb 4 0)), (5, .one (.pb 5 0))], [(5000, [.str, (.int .i64), .bool]), (4, [(.int .i64), (.int .i64), .str, .bool, .nl]), (5, [(.int .i64), (.int .i64), .str, .bool, (.own c_Tiisb)])]⟩, [.str, (.int .i64), .bool, (.int .i64), (.int .i64), .str, .bool, (.int .i64), (.int .i64), .str, .bool, c_Tiisb])
def lp_sl3Set_2 : Gam × Gam × List CT := (⟨[(8, .one (.int .i64)), (4, .one (.own c_b)), (0, .one (.pb 5000 0)), (2, .one (.pb 2 0)), (3, .one (.pb 3 0)), (43, .one .bool), (42, .one (.int .u8)), (37, .one .str), (41, .one (.int .i64)), (40, .one (.pb 5000 1)), (39, .one (.pb 5000 0)), (38, .one (.pb 5000 0)), (36, .one (.pb 5000 0)), (35, .one (.pb 5000 0)), (34, .one (.pb 5000 0)), (5, .one (.int .i64)), (7, .one (.int .i64))], [(5000, [.str, (.int .i64), .bool]), (2, [(.int .i64), (.int .i64), .str, .bool, .nl]), (3, [(.int .i64), (.int .i64), .str, .bool, .nl])]⟩, ⟨[(4, .one (.own c_b)), (0, .one (.pb 5000 0)), (2, .one (.pb 2 0)), (3, .one (.pb 3 0)), (43, .one .bool), (42, .one (.int .u8)), (37, .one .str), (41, .one (.int .i64)), (40, .one (.pb 5000 1)), (39, .one (.pb 5000 0)), (38, .one (.pb 5000 0)), (36, .one (.pb 5000 0)), (35, .one (.pb 5000 0)), (34, .one (.pb 5000 0)), (5, .one (.int .i64))], [(5000, [.str, (.int .i64), .bool]), (2, [(.int .i64), (.int .i64), .str, .bool, .nl]), (3, [(.int .i64), (.int .i64), .str, .bool, .nl])]⟩, [.str, (.int .i64), .bool, (.int .i64), (.int .i64), .str, .bool, (.int .i64), (.int .i64), .str, .bool, c_b, .bool, (.int .u8), .str, (.int .i64), (.int .i64)])
def lp_sl3Set_0 : Gam × Gam × List CT := (⟨[(4, .one (.own c_b)), (5, .one (.int .i64)), (0, .one (.pb 5000 0)), (2, .one (.pb 2 0)), (3, .one (.pb 3 0))], [(5000, [.str, (.int .i64), .bool]), (2, [(.int .i64), (.int .i64), .str, .bool, .nl]), (3, [(.int .i64), (.int .i64), .str, .bool, .nl])]⟩, ⟨[(4, .one (.own c_b)), (2, .one (.pb 2 0)), (3, .one (.pb 3 0)), (0, .one (.pb 5000 0)), (5, .one (.int .i64))], [(5000, [.str, (.int .i64), .bool]), (2, [(.int .i64), (.int .i64), .str, .bool, .nl]), (3, [(.int .i64), (.int .i64), .str, .bool, .nl])]⟩, [.str, (.int .i64), .bool, (.int .i64), (.int .i64), .str, .bool, (.int .i64), (.int .i64), .str, .bool, c_b, (.int .i64)])
def lp_sl3Set_4 : Gam × Gam × List CT := (⟨[(10, .one (.int .i64)), (9, .one (.own c_u)), (4, .one (.own c_b)), (2, .one (.pb 2 0)), (3, .one (.pb 3 0))], [(5000, [.str, (.int .i64), .bool]), (2, [(.int .i64), (.int .i64), .str, .bool, .nl]), (3, [(.int .i64), (.int .i64), .str, .bool, .nl])]⟩, ⟨[(2, .one (.pb 2 0)), (3, .one (.pb 3 0)), (9, .one (.own c_u))], [(5000, [.str, (.int .i64), .bool]), (2, [(.int .i64), (.int .i64), .str, .bool, .nl]), (3, [(.int .i64), (.int .i64), .str, .bool, .nl])]⟩, [.str, (.int .i64), .bool, (.int .i64), (.int .i64), .str, .bool, (.int .i64), (.int .i64), .str, .bool, c_u])
def lp_sl3Deep_0 : Gam × Gam × List CT := (⟨[(4, .one (.int .i64)), (1, .one (.pb 1 0)), (3, .one (.int .i64))], [(1, [(.int .i64), (.int .i64), .str, .bool, (.sh c_Tiisb)])]⟩, ⟨[(3, .one (.int .i64))], []⟩, [(.int .i64)])
def lp_sl26Nums_0 : Gam × Gam × List CT := (⟨[(3, .one (.int .i64)), (0, .one (.sh c_i))], []⟩, ⟨[(0, .one (.sh c_i))], []⟩, [c_i])
def lp_sPeerOk_0 : Gam × Gam × List CT := (⟨[(9, .one (.int .i64)), (7, .one (.int .i64)), (4, .one (.pb 4 0)), (2, .one (.int .i64)), (3, .one (.pb 3 0))], [(4, [(.int .i64), (.int .i64), (.int .i64), (.int .i64), (.int .i64), (.sh c_iiis), (.sh c_iis), (.sh c_isiis), (.int .i64), (.int .i64), (.sh c_i), .str, (.int .i64), (.sh c_b), (.sh c_i), (.sh c_i), (.int .i64), (.sh c_iis), (.sh c_isiis), (.int .i64), (.int .i64), (.sh c_i), .str, (.sh c_u), (.int .i64), (.sh c_q1)]), (3, [(.sh c_s), (.sh c_s), (.sh c_iis), (.sh c_iis)])]⟩, ⟨[(4, .one (.pb 4 0)), (2, .one (.int .i64)), (3, .one (.pb 3 0)), (7, .one (.int .i64))], [(4, [(.int .i64), (.int .i64), (.int .i64), (.int .i64), (.int .i64), (.sh c_iiis), (.sh c_iis), (.sh c_isiis), (.int .i64), (.int .i64), (.sh c_i), .str, (.int .i64), (.sh c_b), (.sh c_i), (.sh c_i), (.int .i64), (.sh c_iis), (.sh c_isiis), (.int .i64), (.int .i64), (.sh c_i), .str, (.sh c_u), (.int .i64), (.sh c_q1)]), (3, [(.sh c_s), (.sh c_s), (.sh c_iis), (.sh c_iis)])]⟩, [(.int .i64), (.int .i64), (.int .i64), (.int .i64), (.int .i64), c_iiis, c_iis, c_isiis, (.int .i64), (.int .i64), c_i, .str, (.int .i64), c_b, c_i, c_i, (.int .i64), c_iis, c_isiis, (.int .i64), (.int .i64), c_i, .str, c_u, (.int .i64), c_q1, c_s, c_s, c_iis, c_iis, (.int .i64), (.int .i64)])
def lp_sPeerOk_2 : Gam × Gam × List CT := (⟨[(10, .one (.int .i64)), (4, .one (.pb 4 0)), (2, .one (.int .i64)), (3, .one (.pb 3 0)), (7, .one (.int .i64))], [(4, [(.int .i64), (.int .i64), (.int .i64), (.int .i64), (.int .i64), (.sh c_iiis), (.sh c_iis), (.sh c_isiis), (.int .i64), (.int .i64), (.sh c_i), .str, (.int .i64), (.sh c_b), (.sh c_i), (.sh c_i), (.int .i64), (.sh c_iis), (.sh c_isiis), (.int .i64), (.int .i64), (.sh c_i), .str, (.sh c_u), (.int .i64), (.sh c_q1)]), (3, [(.sh c_s), (.sh c_s), (.sh c_iis), (.sh c_iis)])]⟩, ⟨[(4, .one (.pb 4 0)), (3, .one (.pb 3 0)), (7, .one (.int .i64))], [(4, [(.int .i64), (.int .i64), (.int .i64), (.int .i64), (.int .i64), (.sh c_iiis), (.sh c_iis), (.sh c_isiis), (.int .i64), (.int .i64), (.sh c_i), .str, (.int .i64), (.sh c_b), (.sh c_i), (.sh c_i), (.int .i64), (.sh c_iis), (.sh c_isiis), (.int .i64), (.int .i64), (.sh c_i), .str, (.sh c_u), (.int .i64), (.sh c_q1)]), (3, [(.sh c_s), (.sh c_s), (.sh c_iis), (.sh c_iis)])]⟩, [(.int .i64), (.int .i64), (.int .i64), (.int .i64), (.int .i64), c_iiis, c_iis, c_isiis, (.int .i64), (.int .i64), c_i, .str, (.int .i64), c_b, c_i, c_i, (.int .i64), c_iis, c_isiis, (.int .i64), (.int .i64), c_i, .str, c_u, (.int .i64), c_q1, c_s, c_s, c_iis, c_iis, (.int .i64)])
def lp_sLogOk_0 : Gam × Gam × List CT := (⟨[(4, .one (.int .i64)), (1, .one (.pb 1 0)), (3, .one (.int .i64))], [(1, [(.int .i64), (.int .i64), (.sh c_iiis)])]⟩, ⟨[], []⟩, [])
def lp_sl9Line_0 : Gam × Gam × List CT := (⟨[(3, .one (.int .i64)), (0, .one .str)], []⟩, ⟨[], []⟩, [])
def lp_sMachOk_0 : Gam × Gam × List CT := (⟨[(5, .one (.int .i64)), (3, .one (.pb 3 0)), (2, .one (.pb 2 0))], [(3, [(.sh c_iis), (.sh c_isiis), (.int .i64), (.int .i64), (.sh c_i), .str]), (2, [(.sh c_s), (.sh c_s), (.sh c_iis), (.sh c_iis)])]⟩, ⟨[(3, .one (.pb 3 0)), (2, .one (.pb 2 0))], [(3, [(.sh c_iis), (.sh c_isiis), (.int .i64), (.int .i64), (.sh c_i), .str]), (2, [(.sh c_s), (.sh c_s), (.sh c_iis), (.sh c_iis)])]⟩, [c_iis, c_isiis, (.int .i64), (.int .i64), c_i, .str, c_s, c_s, c_iis, c_iis])
def lp_sStateOk_0 : Gam × Gam × List CT := (⟨[(7, .one (.int .i64)), (3, .one (.pb 3 0)), (2, .one (.int .i64)), (1, .one (.int .i64))], [(3, [(.sh c_iis), (.sh c_isiis), (.int .i64), (.int .i64)])]⟩, ⟨[(3, .one (.pb 3 0)), (2, .one (.int .i64)), (1, .one (.int .i64))], [(3, [(.sh c_iis), (.sh c_isiis), (.int .i64), (.int .i64)])]⟩, [c_iis, c_isiis, (.int .i64), (.int .i64), (.int .i64), (.int .i64)])
def lp_sStateOk_2 : Gam × Gam × List CT := (⟨[(8, .one (.int .i64)), (3, .one (.pb 3 0)), (2, .one (.int .i64)), (1, .one (.int .i64))], [(3, [(.sh c_iis), (.sh c_isiis), (.int .i64), (.int .i64)])]⟩, ⟨[(3, .one (.pb 3 0)), (1, .one (.int .i64))], [(3, [(.sh c_iis), (.sh c_isiis), (.int .i64), (.int .i64)])]⟩, [c_iis, c_isiis, (.int .i64), (.int .i64), (.int .i64)])
def lp_sDecLooks_0 : Gam × Gam × List CT := (⟨[(5, .one (.int .i64)), (0, .one .str), (4, .one (.int .i64))], []⟩, ⟨[(4, .one (.int .i64))], []⟩, [(.int .i64)])
def lp_sDecFront_0 : Gam × Gam × List CT := (⟨[(4, .one (.int .i64)), (0, .one .str)], []⟩, ⟨[(0, .one .str), (4, .one (.int .i64))], []⟩, [.str, (.int .i64)])
def lp_sDecFront_2 : Gam × Gam × List CT := (⟨[(7, .one (.int .i64)), (4, .one (.int .i64)), (0, .one .str), (6, .one (.int .i64)), (5, .one .bool)], []⟩, ⟨[(7, .one (.int .i64)), (0, .one .str), (6, .one (.int .i64)), (5, .one .bool), (4, .one (.int .i64))], []⟩, [(.int .i64), .str, (.int .i64), .bool, (.int .i64)])
def lp_sDecFront_4 : Gam × Gam × List CT := (⟨[(4, .one (.int .i64)), (7, .one (.int .i64)), (8, .one (.int .i64)), (0, .one .str), (6, .one (.int .i64)), (5, .one .bool)], []⟩, ⟨[(4, .one (.int .i64)), (6, .one (.int .i64)), (5, .one .bool), (7, .one (.int .i64))], []⟩, [(.int .i64), (.int .i64), .bool, (.int .i64)])
def lp_sl19List_0 : Gam × Gam × List CT := (⟨[(5, .one (.int .i64)), (0, .one (.sh c_iiis)), (1, .one (.int .i64))], []⟩, ⟨[(0, .one (.sh c_iiis))], []⟩, [c_iiis])
def lp_iLeader_0 : Gam × Gam × List CT := (⟨[(12, .one (.int .i64)), (3, .one (.int .i64)), (1, .one (.pb 1 0)), (10, .one (.sh c_q0)), (11, .one (.int .i64))], [(1, [(.sh c_s), (.sh c_s), (.sh c_iis), (.sh c_iis), (.int .i64), (.sh c_q0), (.sh c_q1), (.int .i64), .str, (.sh c_i), (.sh c_i), (.sh c_iis)])]⟩, ⟨[(3, .one (.int .i64))], []⟩, [(.int .i64)])
def lp_iWorldOk_0 : Gam × Gam × List CT := (⟨[(38, .one (.int .i64)), (1, .one (.pb 1 0)), (36, .one (.sh c_q0)), (37, .one (.int .i64))], [(1, [(.sh c_s), (.sh c_s), (.sh c_iis), (.sh c_iis), (.int .i64), (.sh c_q0), (.sh c_q1), (.int .i64), .str, (.sh c_i), (.sh c_i), (.sh c_iis)])]⟩, ⟨[(1, .one (.pb 1 0))], [(1, [(.sh c_s), (.sh c_s), (.sh c_iis), (.sh c_iis), (.int .i64), (.sh c_q0), (.sh c_q1), (.int .i64), .str, (.sh c_i), (.sh c_i), (.sh c_iis)])]⟩, [c_s, c_s, c_iis, c_iis, (.int .i64), c_q0, c_q1, (.int .i64), .str, c_i, c_i, c_iis])
def lp_inamesOk_0 : Gam × Gam × List CT := (⟨[(7, .one (.int .i64)), (0, .one (.sh c_s)), (5, .one (.sh c_s)), (6, .one (.int .i64))], []⟩, ⟨[(0, .one (.sh c_s))], []⟩, [c_s])
def lp_ilettersAt_0 : Gam × Gam × List CT := (⟨[(5, .one (.int .i64)), (1, .one (.int .i64)), (0, .one .str)], []⟩, ⟨[(5, .one (.int .i64))], []⟩, [(.int .i64)])
def lp_slices_Index_string_string_0 : Gam × Gam × List CT := (⟨[(8, .one (.int .i64)), (0, .one (.sh c_s)), (1, .one .str), (7, .one (.int .i64))], []⟩, ⟨[], []⟩, [])
def lp_slices_IndexFunc_string_string_0 : Gam × Gam × List CT := (⟨[(8, .one (.int .i64)), (0, .one (.sh c_s)), (1, .one (.fn 111 [] [(.pb 5000 0)])), (7, .one (.int .i64))], [(5000, [(.sh c_s), (.sh c_s), (.sh c_iis), (.sh c_iis)])]⟩, ⟨[], [(5000, [(.sh c_s), (.sh c_s), (.sh c_iis), (.sh c_iis)])]⟩, [c_s, c_s, c_iis, c_iis])
def lp_slices_IndexFunc_impl_Op_impl_Op_0 : Gam × Gam × List CT := (⟨[(8, .one (.int .i64)), (0, .one (.sh c_iis)), (1, .one (.fn 150 [] [(.pb 5000 0), (.pb 5001 0), (.pb 5002 0)])), (7, .one (.int .i64))], [(5000, [(.sh c_iis)]), (5001, [(.int .i64)]), (5002, [(.int .i64)])]⟩, ⟨[], [(5000, [(.sh c_iis)]), (5001, [(.int .i64)]), (5002, [(.int .i64)])]⟩, [c_iis, (.int .i64), (.int .i64)])
def lp_irexReader_pattern_0 : Gam × Gam × List CT := (⟨[(0, .one (.pb 5000 0)), (3, .one (.own c_Tiisb)), (2, .one (.pb 2 0))], [(5000, [.str, .bool]), (2, [(.int .i64), (.int .i64), .str, .bool, .nl])]⟩, ⟨[(2, .one (.pb 2 0)), (3, .one (.own c_Tiisb))], [(5000, [.str, .bool]), (2, [(.int .i64), (.int .i64), .str, .bool, .nl])]⟩, [.str, .bool, (.int .i64), (.int .i64), .str, .bool, c_Tiisb])
def lp_irexReader_part_0 : Gam × Gam × List CT := (⟨[(2, .one (.pb 2 0)), (3, .one (.own c_Tiisb)), (0, .one (.pb 5000 0))], [(5000, [.str, .bool]), (2, [(.int .i64), (.int .i64), .str, .bool, .nl])]⟩, ⟨[(2, .one (.pb 2 0)), (3, .one (.own c_Tiisb))], [(5000, [.str, .bool]), (2, [(.int .i64), (.int .i64), .str, .bool, .nl])]⟩, [.str, .bool, (.int .i64), (.int .i64), .str, .bool, c_Tiisb])
def lp_irexReader_piece_0 : Gam × Gam × List CT := (⟨[(2, .one (.pb 2 0)), (3, .one (.pb 3 0)), (0, .one (.pb 5000 0))], [(5000, [.str, .bool]), (2, [(.int .i64), (.int .i64), .str, .bool, .nl]), (3, [(.int .i64), (.int .i64), .str, .bool, (.own c_Tiisb)])]⟩, ⟨[], [(5000, [.undef, .undef])]⟩, [])
def lp_irexReader_set_2 : Gam × Gam × List CT := (⟨[(10, .one (.int .i64)), (6, .one (.own c_b)), (0, .one (.pb 5000 0)), (5, .one .str), (2, .one (.pb 2 0)), (3, .one (.pb 3 0)), (7, .one (.int .i64)), (9, .one (.int .i64))], [(5000, [.str, .bool]), (2, [(.int .i64), (.int .i64), .str, .bool, .nl]), (3, [(.int .i64), (.int .i64), .str, .bool, .nl])]⟩, ⟨[(6, .one (.own c_b)), (0, .one (.pb 5000 0)), (5, .one .str), (2, .one (.pb 2 0)), (3, .one (.pb 3 0)), (7, .one (.int .i64))], [(5000, [.str, .bool]), (2, [(.int .i64), (.int .i64), .str, .bool, .nl]), (3, [(.int .i64), (.int .i64), .str, .bool, .nl])]⟩, [.str, .bool, (.int .i64), (.int .i64), .str, .bool, (.int .i64), (.int .i64), .str, .bool, c_b, .str, (.int .i64)])
def lp_irexReader_set_0 : Gam × Gam × List CT := (⟨[(6, .one (.own c_b)), (7, .one (.int .i64)), (0, .one (.pb 5000 0)), (5, .one .str), (2, .one (.pb 2 0)), (3, .one (.pb 3 0))], [(5000, [.str, .bool]), (2, [(.int .i64), (.int .i64), .str, .bool, .nl]), (3, [(.int .i64), (.int .i64), .str, .bool, .nl])]⟩, ⟨[(2, .one (.pb 2 0)), (3, .one (.pb 3 0)), (6, .one (.own c_b))], [(5000, [.str, .bool]), (2, [(.int .i64), (.int .i64), .str, .bool, .nl]), (3, [(.int .i64), (.int .i64), .str, .bool, .nl])]⟩, [.str, .bool, (.int .i64), (.int .i64), .str, .bool, (.int .i64), (.int .i64), .str, .bool, c_b])
def lp_irexReader_set_4 : Gam × Gam × List CT := (⟨[(102, .one (.int .i64)), (11, .one (.own c_u)), (100, .one (.own c_b)), (2, .one (.pb 2 0)), (3, .one (.pb 3 0)), (101, .one (.int .i64))], [(5000, [.str, .bool]), (2, [(.int .i64), (.int .i64), .str, .bool, .nl]), (3, [(.int .i64), (.int .i64), .str, .bool, .nl])]⟩, ⟨[(2, .one (.pb 2 0)), (3, .one (.pb 3 0)), (11, .one (.own c_u))], [(5000, [.str, .bool]), (2, [(.int .i64), (.int .i64), .str, .bool, .nl]), (3, [(.int .i64), (.int .i64), .str, .bool, .nl])]⟩, [.str, .bool, (.int .i64), (.int .i64), .str, .bool, (.int .i64), (.int .i64), .str, .bool, c_u])
def lp_irexDeep_0 : Gam × Gam × List CT := (⟨[(9, .one (.int .i64)), (3, .one (.int .i64)), (7, .one (.sh c_Tiisb)), (8, .one (.int .i64))], []⟩, ⟨[(3, .one (.int .i64))], []⟩, [(.int .i64)])
def lp_iLogOk_0 : Gam × Gam × List CT := (⟨[(30, .one (.int .i64)), (3, .one (.int .i64)), (28, .one (.sh c_iiis)), (29, .one (.int .i64))], []⟩, ⟨[], []⟩, [])
def lp_iStateOk_0 : Gam × Gam × List CT := (⟨[(40, .one (.int .i64)), (3, .one (.pb 3 0)), (2, .one (.int .i64)), (38, .one (.sh c_isiis)), (39, .one (.int .i64))], [(3, [(.sh c_iis), (.sh c_isiis), (.int .i64), (.int .i64)])]⟩, ⟨[], []⟩, [])
def lp_slices_IndexFunc_impl_Val_impl_Val_0 : Gam × Gam × List CT := (⟨[(8, .one (.int .i64)), (0, .one (.sh c_iis)), (1, .one (.fn 184 [] [])), (7, .one (.int .i64))], []⟩, ⟨[], []⟩, [])
def lp_strings_trimLeftByte_0 : Gam × Gam × List CT := (⟨[(0, .one .str), (1, .one (.int .u8))], []⟩, ⟨[(0, .one .str)], []⟩, [.str])
def lp_idigitsAt_0 : Gam × Gam × List CT := (⟨[(5, .one (.int .i64)), (1, .one (.int .i64)), (0, .one .str)], []⟩, ⟨[(5, .one (.int .i64))], []⟩, [(.int .i64)])
def lp_strings_trimRightByte_0 : Gam × Gam × List CT := (⟨[(0, .one .str), (1, .one (.int .u8))], []⟩, ⟨[(0, .one .str)], []⟩, [.str])
def lp_slices_IndexFunc_int_int_0 : Gam × Gam × List CT := (⟨[(8, .one (.int .i64)), (0, .one (.sh c_i)), (1, .one (.fn 155 [] [])), (7, .one (.int .i64))], []⟩, ⟨[], []⟩, [])
def lp_slices_IndexFunc_int_int_2_0 : Gam × Gam × List CT := (⟨[(8, .one (.int .i64)), (0, .one (.sh c_i)), (1, .one (.fn 122 [] [(.pb 5000 0), (.pb 5001 0)])), (7, .one (.int .i64))], [(5000, [(.int .i64)]), (5001, [(.int .i64)])]⟩, ⟨[], [(5000, [(.int .i64)]), (5001, [(.int .i64)])]⟩, [(.int .i64), (.int .i64)])
def lp_slices_IndexFunc_impl_Rpc_impl_Rpc_0 : Gam × Gam × List CT := (⟨[(8, .one (.int .i64)), (0, .one (.sh c_q1)), (1, .one (.fn 118 [] [(.pb 5000 0), (.pb 5001 0)])), (7, .one (.int .i64))], [(5000, [(.int .i64)]), (5001, [(.int .i64), (.int .i64), (.int .i64), (.int .i64), (.int .i64), (.sh c_iiis), (.sh c_iis), (.sh c_isiis), (.int .i64), (.int .i64), (.sh c_i), .str, (.int .i64), (.sh c_b), (.sh c_i), (.sh c_i), (.int .i64), (.sh c_iis), (.sh c_isiis), (.int .i64), (.int .i64), (.sh c_i), .str, (.sh c_u), (.int .i64), (.sh c_q1)])]⟩, ⟨[], [(5000, [(.int .i64)]), (5001, [(.int .i64), (.int .i64), (.int .i64), (.int .i64), (.int .i64), (.sh c_iiis), (.sh c_iis), (.sh c_isiis), (.int .i64), (.int .i64), (.sh c_i), .str, (.int .i64), (.sh c_b), (.sh c_i), (.sh c_i), (.int .i64), (.sh c_iis), (.sh c_isiis), (.int .i64), (.int .i64), (.sh c_i), .str, (.sh c_u), (.int .i64), (.sh c_q1)])]⟩, [(.int .i64), (.int .i64), (.int .i64), (.int .i64), (.int .i64), (.int .i64), c_iiis, c_iis, c_isiis, (.int .i64), (.int .i64), c_i, .str, (.int .i64), c_b, c_i, c_i, (.int .i64), c_iis, c_isiis, (.int .i64), (.int .i64), c_i, .str, c_u, (.int .i64), c_q1])
def lp_slices_IndexFunc_impl_Entry_impl_Entry_0 : Gam × Gam × List CT := (⟨[(8, .one (.int .i64)), (0, .one (.sh c_iiis)), (1, .one (.fn 157 [] [(.pb 5000 0)])), (7, .one (.int .i64))], [(5000, [(.int .i64)])]⟩, ⟨[], [(5000, [(.int .i64)])]⟩, [(.int .i64)])
def lp_slices_IndexFunc_impl_Rpc_impl_Rpc_2_0 : Gam × Gam × List CT := (⟨[(8, .one (.int .i64)), (0, .one (.sh c_q1)), (1, .one (.fn 75 [] [(.pb 5000 0)])), (7, .one (.int .i64))], [(5000, [(.sh c_s), (.sh c_s), (.sh c_iis), (.sh c_iis), (.int .i64), (.sh c_q0), (.sh c_q1), (.int .i64), .str, (.sh c_i), (.sh c_i), (.sh c_iis)])]⟩, ⟨[], [(5000, [(.sh c_s), (.sh c_s), (.sh c_iis), (.sh c_iis), (.int .i64), (.sh c_q0), (.sh c_q1), (.int .i64), .str, (.sh c_i), (.sh c_i), (.sh c_iis)])]⟩, [c_s, c_s, c_iis, c_iis, (.int .i64), c_q0, c_q1, (.int .i64), .str, c_i, c_i, c_iis])
def lp_slices_IndexFunc_impl_Cmd_impl_Cmd_0 : Gam × Gam × List CT := (⟨[(8, .one (.int .i64)), (0, .one (.sh c_iis)), (1, .one (.fn 79 [] [])), (7, .one (.int .i64))], []⟩, ⟨[], []⟩, [])
def lp_eqStringS_0 : Gam × Gam × List CT := (⟨[(5, .one (.int .i64)), (1, .one (.sh c_s)), (0, .one (.sh c_s))], []⟩, ⟨[], []⟩, [])
def lp_eqOpS_0 : Gam × Gam × List CT := (⟨[(5, .one (.int .i64)), (1, .one (.sh c_iis)), (0, .one (.sh c_iis))], []⟩, ⟨[], []⟩, [])
def lp_eqPeerS_0 : Gam × Gam × List CT := (⟨[(5, .one (.int .i64)), (1, .one (.sh c_q0)), (0, .one (.sh c_q0))], []⟩, ⟨[], []⟩, [])
def lp_eqEntryS_0 : Gam × Gam × List CT := (⟨[(5, .one (.int .i64)), (1, .one (.sh c_iiis)), (0, .one (.sh c_iiis))], []⟩, ⟨[], []⟩, [])
def lp_eqValS_0 : Gam × Gam × List CT := (⟨[(5, .one (.int .i64)), (1, .one (.sh c_iis)), (0, .one (.sh c_iis))], []⟩, ⟨[], []⟩, [])
def lp_eqCellS_0 : Gam × Gam × List CT := (⟨[(5, .one (.int .i64)), (1, .one (.sh c_isiis)), (0, .one (.sh c_isiis))], []⟩, ⟨[], []⟩, [])
def lp_eqIntS_0 : Gam × Gam × List CT := (⟨[(5, .one (.int .i64)), (1, .one (.sh c_i)), (0, .one (.sh c_i))], []⟩, ⟨[], []⟩, [])
def lp_eqBoolS_0 : Gam × Gam × List CT := (⟨[(5, .one (.int .i64)), (1, .one (.sh c_b)), (0, .one (.sh c_b))], []⟩, ⟨[], []⟩, [])
def lp_eqByteS_0 : Gam × Gam × List CT := (⟨[(5, .one (.int .i64)), (1, .one (.sh c_u)), (0, .one (.sh c_u))], []⟩, ⟨[], []⟩, [])
def lp_eqRpcS_0 : Gam × Gam × List CT := (⟨[(5, .one (.int .i64)), (1, .one (.sh c_q1)), (0, .one (.sh c_q1))], []⟩, ⟨[], []⟩, [])
def lp_eqCmdS_0 : Gam × Gam × List CT := (⟨[(5, .one (.int .i64)), (1, .one (.sh c_iis)), (0, .one (.sh c_iis))], []⟩, ⟨[], []⟩, [])
def lp_sl28Even_0 : Gam × Gam × List CT := (⟨[(8, .one (.int .i64)), (5, .one (.pb 5 0)), (2, .one (.pb 2 0)), (6, .one (.int .i64))], [(5, [(.int .i64), (.int .i64), (.int .i64), (.int .i64), (.int .i64), (.sh c_iiis), (.sh c_iis), (.sh c_isiis), (.int .i64), (.int .i64), (.sh c_i), .str, (.int .i64), (.sh c_b), (.sh c_i), (.sh c_i), (.int .i64), (.sh c_iis), (.sh c_isiis), (.int .i64), (.int .i64), (.sh c_i), .str, (.sh c_u), (.int .i64), (.sh c_q1)]), (2, [(.sh c_s), (.sh c_s), (.sh c_iis), (.sh c_iis), (.int .i64), (.sh c_q0), (.sh c_q1), (.int .i64), .str, (.sh c_i), (.sh c_i), (.sh c_iis)])]⟩, ⟨[(5, .one (.pb 5 0))], [(5, [(.int .i64), (.int .i64), (.int .i64), (.int .i64), (.int .i64), (.sh c_iiis), (.sh c_iis), (.sh c_isiis), (.int .i64), (.int .i64), (.sh c_i), .str, (.int .i64), (.sh c_b), (.sh c_i), (.sh c_i), (.int .i64), (.sh c_iis), (.sh c_isiis), (.int .i64), (.int .i64), (.sh c_i), .str, (.sh c_u), (.int .i64), (.sh c_q1)])]⟩, [(.int .i64), (.int .i64), (.int .i64), (.int .i64), (.int .i64), c_iiis, c_iis, c_isiis, (.int .i64), (.int .i64), c_i, .str, (.int .i64), c_b, c_i, c_i, (.int .i64), c_iis, c_isiis, (.int .i64), (.int .i64), c_i, .str, c_u, (.int .i64), c_q1])
def lp_iEven_0 : Gam × Gam × List CT := (⟨[(45, .one (.int .i64)), (5, .one (.pb 5 0)), (2, .one (.pb 2 0)), (6, .one (.int .i64)), (43, .one (.sh c_i)), (44, .one (.int .i64))], [(5, [(.int .i64), (.int .i64), (.int .i64), (.int .i64), (.int .i64), (.sh c_iiis), (.sh c_iis), (.sh c_isiis), (.int .i64), (.int .i64), (.sh c_i), .str, (.int .i64), (.sh c_b), (.sh c_i), (.sh c_i), (.int .i64), (.sh c_iis), (.sh c_isiis), (.int .i64), (.int .i64), (.sh c_i), .str, (.sh c_u), (.int .i64), (.sh c_q1)]), (2, [(.sh c_s), (.sh c_s), (.sh c_iis), (.sh c_iis), (.int .i64), (.sh c_q0), (.sh c_q1), (.int .i64), .str, (.sh c_i), (.sh c_i), (.sh c_iis)])]⟩, ⟨[], []⟩, [])
def lp_sJudgeLead_2 : Gam × Gam × List CT := (⟨[(4, .one (.int .i64)), (1, .one (.pb 1 0)), (3, .one (.int .i64))], [(1, [(.sh c_s), (.sh c_s), (.sh c_iis), (.sh c_iis), (.int .i64), (.sh c_q0), (.sh c_q1), (.int .i64), .str, (.sh c_i), (.sh c_i), (.sh c_iis)])]⟩, ⟨[(1, .one (.pb 1 0)), (3, .one (.int .i64))], [(1, [(.sh c_s), (.sh c_s), (.sh c_iis), (.sh c_iis), (.int .i64), (.sh c_q0), (.sh c_q1), (.int .i64), .str, (.sh c_i), (.sh c_i), (.sh c_iis)])]⟩, [c_s, c_s, c_iis, c_iis, (.int .i64), c_q0, c_q1, (.int .i64), .str, c_i, c_i, c_iis, (.int .i64)])
def lp_sJudgeLead_0 : Gam × Gam × List CT := (⟨[(1, .one (.pb 1 0)), (3, .one (.int .i64))], [(1, [(.sh c_s), (.sh c_s), (.sh c_iis), (.sh c_iis), (.int .i64), (.sh c_q0), (.sh c_q1), (.int .i64), .str, (.sh c_i), (.sh c_i), (.sh c_iis)])]⟩, ⟨[], []⟩, [])
def lp_iJudgeLead_2 : Gam × Gam × List CT := (⟨[(23, .one (.int .i64)), (4, .one (.pb 4 0)), (21, .one (.sh c_q0)), (1, .one (.pb 1 0)), (11, .one (.sh c_q0)), (12, .one (.int .i64)), (13, .one (.int .i64)), (22, .one (.int .i64))], [(4, [(.int .i64), (.int .i64), (.int .i64), (.int .i64), (.int .i64), (.sh c_iiis), (.sh c_iis), (.sh c_isiis), (.int .i64), (.int .i64), (.sh c_i), .str, (.int .i64), (.sh c_b), (.sh c_i), (.sh c_i), (.int .i64), (.sh c_iis), (.sh c_isiis), (.int .i64), (.int .i64), (.sh c_i), .str, (.sh c_u), (.int .i64), (.sh c_q1)]), (1, [(.sh c_s), (.sh c_s), (.sh c_iis), (.sh c_iis), (.int .i64), (.sh c_q0), (.sh c_q1), (.int .i64), .str, (.sh c_i), (.sh c_i), (.sh c_iis)])]⟩, ⟨[(1, .one (.pb 1 0)), (11, .one (.sh c_q0)), (12, .one (.int .i64)), (13, .one (.int .i64))], [(1, [(.sh c_s), (.sh c_s), (.sh c_iis), (.sh c_iis), (.int .i64), (.sh c_q0), (.sh c_q1), (.int .i64), .str, (.sh c_i), (.sh c_i), (.sh c_iis)])]⟩, [c_s, c_s, c_iis, c_iis, (.int .i64), c_q0, c_q1, (.int .i64), .str, c_i, c_i, c_iis, c_q0, (.int .i64), (.int .i64)])
def lp_iJudgeLead_0 : Gam × Gam × List CT := (⟨[(13, .one (.int .i64)), (1, .one (.pb 1 0)), (11, .one (.sh c_q0)), (12, .one (.int .i64))], [(1, [(.sh c_s), (.sh c_s), (.sh c_iis), (.sh c_iis), (.int .i64), (.sh c_q0), (.sh c_q1), (.int .i64), .str, (.sh c_i), (.sh c_i), (.sh c_iis)])]⟩, ⟨[], []⟩, [])
noncomputable def en_FnExactLeader : Entry := { f := 4, fn := Tryz.f4, ins := [.agg [(.sh c_s), (.sh c_s), (.sh c_iis), (.sh c_iis), (.int .i64), (.sh c_q0), (.sh c_q1), (.int .i64), .str, (.sh c_i), (.sh c_i), (.sh c_iis)]], bx := [], outs := .one .bool, bxo := [], loops := [], noJoin := [], outC := [.bool], prim := none }
noncomputable def en_szWorld : Entry := { f := 7, fn := Tryz.f7, ins := [.agg [(.sh c_s), (.sh c_s), (.sh c_iis), (.sh c_iis), (.int .i64), (.sh c_q0), (.sh c_q1), (.int .i64), .str, (.sh c_i), (.sh c_i), (.sh c_iis)], .one (.int .i64)], bx := [], outs := .one (.int .i64), bxo := [], loops := [], noJoin := [], outC := [(.int .i64)], prim := none }
noncomputable def en_szProg : Entry := { f := 18, fn := Tryz.f18, ins := [.agg [(.sh c_s), (.sh c_s), (.sh c_iis), (.sh c_iis)], .one (.int .i64)], bx := [], outs := .one (.int .i64), bxo := [], loops := [], noJoin := [], outC := [(.int .i64)], prim := none }
noncomputable def en_szStringS : Entry := { f := 47, fn := Tryz.f47, ins := [.one (.sh c_s), .one (.int .i64)], bx := [], outs := .one (.int .i64), bxo := [], loops := [(0, lp_szStringS_0)], noJoin := [], outC := [(.int .i64)], prim := none }
noncomputable def en_szOpS : Entry := { f := 48, fn := Tryz.f48, ins := [.one (.sh c_iis), .one (.int .i64)], bx := [], outs := .one (.int .i64), bxo := [], loops := [(0, lp_szOpS_0)], noJoin := [], outC := [(.int .i64)], prim := none }
noncomputable def en_szOp : Entry := { f := 81, fn := Tryz.f81, ins := [.agg [(.int .i64), (.int .i64), .str], .one (.int .i64)], bx := [], outs := .one (.int .i64), bxo := [], loops := [], noJoin := [], outC := [(.int .i64)], prim := none }
noncomputable def en_szPeerS : Entry := { f := 19, fn := Tryz.f19, ins := [.one (.sh c_q0), .one (.int .i64)], bx := [], outs := .one (.int .i64), bxo := [], loops := [(0, lp_szPeerS_0)], noJoin := [], outC := [(.int .i64)], prim := none }
noncomputable def en_szPeer : Entry := { f := 49, fn := Tryz.f49, ins := [.agg [(.int .i64), (.int .i64), (.int .i64), (.int .i64), (.int .i64), (.sh c_iiis), (.sh c_iis), (.sh c_isiis), (.int .i64), (.int .i64), (.sh c_i), .str, (.int .i64), (.sh c_b), (.sh c_i), (.sh c_i), (.int .i64), (.sh c_iis), (.sh c_isiis), (.int .i64), (.int .i64), (.sh c_i), .str, (.sh c_u), (.int .i64), (.sh c_q1)], .one (.int .i64)], bx := [], outs := .one (.int .i64), bxo := [], loops := [], noJoin := [], outC := [(.int .i64)], prim := none }
noncomputable def en_szHard : Entry := { f := 82, fn := Tryz.f82, ins := [.agg [(.int .i64), (.int .i64), (.int .i64), (.int .i64), (.sh c_iiis), (.sh c_iis), (.sh c_isiis), (.int .i64), (.int .i64), (.sh c_i), .str], .one (.int .i64)], bx := [], outs := .one (.int .i64), bxo := [], loops := [], noJoin := [], outC := [(.int .i64)], prim := none }
noncomputable def en_szLog : Entry := { f := 125, fn := Tryz.f125, ins := [.agg [(.int .i64), (.int .i64), (.sh c_iiis)], .one (.int .i64)], bx := [], outs := .one (.int .i64), bxo := [], loops := [], noJoin := [], outC := [(.int .i64)], prim := none }
noncomputable def en_szEntryS : Entry := { f := 86, fn := Tryz.f86, ins := [.one (.sh c_iiis), .one (.int .i64)], bx := [], outs := .one (.int .i64), bxo := [], loops := [(0, lp_szEntryS_0)], noJoin := [], outC := [(.int .i64)], prim := none }
noncomputable def en_szEntry : Entry := { f := 128, fn := Tryz.f128, ins := [.agg [(.int .i64), (.int .i64), (.int .i64), .str], .one (.int .i64)], bx := [], outs := .one (.int .i64), bxo := [], loops := [], noJoin := [], outC := [(.int .i64)], prim := none }
noncomputable def en_szCmd : Entry := { f := 51, fn := Tryz.f51, ins := [.agg [(.int .i64), (.int .i64), .str], .one (.int .i64)], bx := [], outs := .one (.int .i64), bxo := [], loops := [], noJoin := [], outC := [(.int .i64)], prim := none }
noncomputable def en_szMach : Entry := { f := 84, fn := Tryz.f84, ins := [.agg [(.sh c_iis), (.sh c_isiis), (.int .i64), (.int .i64), (.sh c_i), .str], .one (.int .i64)], bx := [], outs := .one (.int .i64), bxo := [], loops := [], noJoin := [], outC := [(.int .i64)], prim := none }
noncomputable def en_szState : Entry := { f := 126, fn := Tryz.f126, ins := [.agg [(.sh c_iis), (.sh c_isiis), (.int .i64), (.int .i64)], .one (.int .i64)], bx := [], outs := .one (.int .i64), bxo := [], loops := [], noJoin := [], outC := [(.int .i64)], prim := none }
noncomputable def en_szValS : Entry := { f := 160, fn := Tryz.f160, ins := [.one (.sh c_iis), .one (.int .i64)], bx := [], outs := .one (.int .i64), bxo := [], loops := [(0, lp_szValS_0)], noJoin := [], outC := [(.int .i64)], prim := none }
noncomputable def en_szVal : Entry := { f := 189, fn := Tryz.f189, ins := [.agg [(.int .i64), (.int .i64), .str], .one (.int .i64)], bx := [], outs := .one (.int .i64), bxo := [], loops := [], noJoin := [], outC := [(.int .i64)], prim := none }
noncomputable def en_szCellS : Entry := { f := 161, fn := Tryz.f161, ins := [.one (.sh c_isiis), .one (.int .i64)], bx := [], outs := .one (.int .i64), bxo := [], loops := [(0, lp_szCellS_0)], noJoin := [], outC := [(.int .i64)], prim := none }
noncomputable def en_szCell : Entry := { f := 190, fn := Tryz.f190, ins := [.agg [(.int .i64), .str, (.int .i64), (.int .i64), .str], .one (.int .i64)], bx := [], outs := .one (.int .i64), bxo := [], loops := [], noJoin := [], outC := [(.int .i64)], prim := none }
noncomputable def en_szIntS : Entry := { f := 22, fn := Tryz.f22, ins := [.one (.sh c_i), .one (.int .i64)], bx := [], outs := .one (.int .i64), bxo := [], loops := [], noJoin := [], outC := [(.int .i64)], prim := none }
noncomputable def en_szBoolS : Entry := { f := 83, fn := Tryz.f83, ins := [.one (.sh c_b), .one (.int .i64)], bx := [], outs := .one (.int .i64), bxo := [], loops := [], noJoin := [], outC := [(.int .i64)], prim := none }
noncomputable def en_szDisk : Entry := { f := 85, fn := Tryz.f85, ins := [.agg [(.sh c_u), (.int .i64)], .one (.int .i64)], bx := [], outs := .one (.int .i64), bxo := [], loops := [], noJoin := [], outC := [(.int .i64)], prim := none }
noncomputable def en_szByteS : Entry := { f := 127, fn := Tryz.f127, ins := [.one (.sh c_u), .one (.int .i64)], bx := [], outs := .one (.int .i64), bxo := [], loops := [], noJoin := [], outC := [(.int .i64)], prim := none }
noncomputable def en_szRpcS : Entry := { f := 20, fn := Tryz.f20, ins := [.one (.sh c_q1), .one (.int .i64)], bx := [], outs := .one (.int .i64), bxo := [], loops := [(0, lp_szRpcS_0)], noJoin := [], outC := [(.int .i64)], prim := none }
noncomputable def en_szRpc : Entry := { f := 50, fn := Tryz.f50, ins := [.agg [(.int .i64), (.int .i64), (.int .i64), (.int .i64), (.int .i64), (.int .i64), (.int .i64), (.sh c_iiis), .bool, .str], .one (.int .i64)], bx := [], outs := .one (.int .i64), bxo := [], loops := [], noJoin := [], outC := [(.int .i64)], prim := none }
noncomputable def en_szSink : Entry := { f := 21, fn := Tryz.f21, ins := [.agg [(.int .i64), .str], .one (.int .i64)], bx := [], outs := .one (.int .i64), bxo := [], loops := [], noJoin := [], outC := [(.int .i64)], prim := none }
noncomputable def en_szCmdS : Entry := { f := 23, fn := Tryz.f23, ins := [.one (.sh c_iis), .one (.int .i64)], bx := [], outs := .one (.int .i64), bxo := [], loops := [(0, lp_szCmdS_0)], noJoin := [], outC := [(.int .i64)], prim := none }
noncomputable def en_toWorld : Entry := { f := 9, fn := Tryz.f9, ins := [.agg [(.sh c_s), (.sh c_s), (.sh c_iis), (.sh c_iis), (.int .i64), (.sh c_q0), (.sh c_q1), (.int .i64), .str, (.sh c_i), (.sh c_i), (.sh c_iis)]], bx := [], outs := .agg [(.own c_s), (.own c_s), (.own c_iis), (.own c_iis), (.int .i64), (.own c_q0), (.own c_q1), (.int .i64), .str, (.own c_i), (.own c_i), (.own c_iis)], bxo := [], loops := [], noJoin := [], outC := [c_s, c_s, c_iis, c_iis, (.int .i64), c_q0, c_q1, (.int .i64), .str, c_i, c_i, c_iis], prim := none }
noncomputable def en_toProg : Entry := { f := 26, fn := Tryz.f26, ins := [.agg [(.sh c_s), (.sh c_s), (.sh c_iis), (.sh c_iis)]], bx := [], outs := .agg [(.own c_s), (.own c_s), (.own c_iis), (.own c_iis)], bxo := [], loops := [], noJoin := [], outC := [c_s, c_s, c_iis, c_iis], prim := none }
noncomputable def en_toStringS : Entry := { f := 54, fn := Tryz.f54, ins := [.one (.sh c_s)], bx := [], outs := .one (.own c_s), bxo := [], loops := [(0, lp_toStringS_0)], noJoin := [], outC := [c_s], prim := none }
noncomputable def en_toOpS : Entry := { f := 55, fn := Tryz.f55, ins := [.one (.sh c_iis)], bx := [], outs := .one (.own c_iis), bxo := [], loops := [(0, lp_toOpS_0)], noJoin := [], outC := [c_iis], prim := none }
noncomputable def en_toOp : Entry := { f := 88, fn := Tryz.f88, ins := [.agg [(.int .i64), (.int .i64), .str]], bx := [], outs := .agg [(.int .i64), (.int .i64), .str], bxo := [], loops := [], noJoin := [], outC := [(.int .i64), (.int .i64), .str], prim := none }
noncomputable def en_toPeerS : Entry := { f := 27, fn := Tryz.f27, ins := [.one (.sh c_q0)], bx := [], outs := .one (.own c_q0), bxo := [], loops := [(0, lp_toPeerS_0)], noJoin := [], outC := [c_q0], prim := none }
noncomputable def en_toPeer : Entry := { f := 56, fn := Tryz.f56, ins := [.agg [(.int .i64), (.int .i64), (.int .i64), (.int .i64), (.int .i64), (.sh c_iiis), (.sh c_iis), (.sh c_isiis), (.int .i64), (.int .i64), (.sh c_i), .str, (.int .i64), (.sh c_b), (.sh c_i), (.sh c_i), (.int .i64), (.sh c_iis), (.sh c_isiis), (.int .i64), (.int .i64), (.sh c_i), .str, (.sh c_u), (.int .i64), (.sh c_q1)]], bx := [], outs := .agg [(.int .i64), (.int .i64), (.int .i64), (.int .i64), (.int .i64), (.own c_iiis), (.own c_iis), (.own c_isiis), (.int .i64), (.int .i64), (.own c_i), .str, (.int .i64), (.own c_b), (.own c_i), (.own c_i), (.int .i64), (.own c_iis), (.own c_isiis), (.int .i64), (.int .i64), (.own c_i), .str, (.own c_u), (.int .i64), (.own c_q1)], bxo := [], loops := [], noJoin := [], outC := [(.int .i64), (.int .i64), (.int .i64), (.int .i64), (.int .i64), c_iiis, c_iis, c_isiis, (.int .i64), (.int .i64), c_i, .str, (.int .i64), c_b, c_i, c_i, (.int .i64), c_iis, c_isiis, (.int .i64), (.int .i64), c_i, .str, c_u, (.int .i64), c_q1], prim := none }
noncomputable def en_toHard : Entry := { f := 89, fn := Tryz.f89, ins := [.agg [(.int .i64), (.int .i64), (.int .i64), (.int .i64), (.sh c_iiis), (.sh c_iis), (.sh c_isiis), (.int .i64), (.int .i64), (.sh c_i), .str]], bx := [], outs := .agg [(.int .i64), (.int .i64), (.int .i64), (.int .i64), (.own c_iiis), (.own c_iis), (.own c_isiis), (.int .i64), (.int .i64), (.own c_i), .str], bxo := [], loops := [], noJoin := [], outC := [(.int .i64), (.int .i64), (.int .i64), (.int .i64), c_iiis, c_iis, c_isiis, (.int .i64), (.int .i64), c_i, .str], prim := none }
noncomputable def en_toLog : Entry := { f := 129, fn := Tryz.f129, ins := [.agg [(.int .i64), (.int .i64), (.sh c_iiis)]], bx := [], outs := .agg [(.int .i64), (.int .i64), (.own c_iiis)], bxo := [], loops := [], noJoin := [], outC := [(.int .i64), (.int .i64), c_iiis], prim := none }
noncomputable def en_toEntryS : Entry := { f := 93, fn := Tryz.f93, ins := [.one (.sh c_iiis)], bx := [], outs := .one (.own c_iiis), bxo := [], loops := [(0, lp_toEntryS_0)], noJoin := [], outC := [c_iiis], prim := none }
noncomputable def en_toEntry : Entry := { f := 132, fn := Tryz.f132, ins := [.agg [(.int .i64), (.int .i64), (.int .i64), .str]], bx := [], outs := .agg [(.int .i64), (.int .i64), (.int .i64), .str], bxo := [], loops := [], noJoin := [], outC := [(.int .i64), (.int .i64), (.int .i64), .str], prim := none }
noncomputable def en_toCmd : Entry := { f := 58, fn := Tryz.f58, ins := [.agg [(.int .i64), (.int .i64), .str]], bx := [], outs := .agg [(.int .i64), (.int .i64), .str], bxo := [], loops := [], noJoin := [], outC := [(.int .i64), (.int .i64), .str], prim := none }
noncomputable def en_toMach : Entry := { f := 91, fn := Tryz.f91, ins := [.agg [(.sh c_iis), (.sh c_isiis), (.int .i64), (.int .i64), (.sh c_i), .str]], bx := [], outs := .agg [(.own c_iis), (.own c_isiis), (.int .i64), (.int .i64), (.own c_i), .str], bxo := [], loops := [], noJoin := [], outC := [c_iis, c_isiis, (.int .i64), (.int .i64), c_i, .str], prim := none }
noncomputable def en_toState : Entry := { f := 130, fn := Tryz.f130, ins := [.agg [(.sh c_iis), (.sh c_isiis), (.int .i64), (.int .i64)]], bx := [], outs := .agg [(.own c_iis), (.own c_isiis), (.int .i64), (.int .i64)], bxo := [], loops := [], noJoin := [], outC := [c_iis, c_isiis, (.int .i64), (.int .i64)], prim := none }
noncomputable def en_toValS : Entry := { f := 162, fn := Tryz.f162, ins := [.one (.sh c_iis)], bx := [], outs := .one (.own c_iis), bxo := [], loops := [(0, lp_toValS_0)], noJoin := [], outC := [c_iis], prim := none }
noncomputable def en_toVal : Entry := { f := 191, fn := Tryz.f191, ins := [.agg [(.int .i64), (.int .i64), .str]], bx := [], outs := .agg [(.int .i64), (.int .i64), .str], bxo := [], loops := [], noJoin := [], outC := [(.int .i64), (.int .i64), .str], prim := none }
noncomputable def en_toCellS : Entry := { f := 163, fn := Tryz.f163, ins := [.one (.sh c_isiis)], bx := [], outs := .one (.own c_isiis), bxo := [], loops := [(0, lp_toCellS_0)], noJoin := [], outC := [c_isiis], prim := none }
noncomputable def en_toCell : Entry := { f := 192, fn := Tryz.f192, ins := [.agg [(.int .i64), .str, (.int .i64), (.int .i64), .str]], bx := [], outs := .agg [(.int .i64), .str, (.int .i64), (.int .i64), .str], bxo := [], loops := [], noJoin := [], outC := [(.int .i64), .str, (.int .i64), (.int .i64), .str], prim := none }
noncomputable def en_toIntS : Entry := { f := 30, fn := Tryz.f30, ins := [.one (.sh c_i)], bx := [], outs := .one (.own c_i), bxo := [], loops := [(0, lp_toIntS_0)], noJoin := [], outC := [c_i], prim := none }
noncomputable def en_toBoolS : Entry := { f := 90, fn := Tryz.f90, ins := [.one (.sh c_b)], bx := [], outs := .one (.own c_b), bxo := [], loops := [(0, lp_toBoolS_0)], noJoin := [], outC := [c_b], prim := none }
noncomputable def en_toDisk : Entry := { f := 92, fn := Tryz.f92, ins := [.agg [(.sh c_u), (.int .i64)]], bx := [], outs := .agg [(.own c_u), (.int .i64)], bxo := [], loops := [], noJoin := [], outC := [c_u, (.int .i64)], prim := none }
noncomputable def en_toByteS : Entry := { f := 131, fn := Tryz.f131, ins := [.one (.sh c_u)], bx := [], outs := .one (.own c_u), bxo := [], loops := [(0, lp_toByteS_0)], noJoin := [], outC := [c_u], prim := none }
noncomputable def en_toRpcS : Entry := { f := 28, fn := Tryz.f28, ins := [.one (.sh c_q1)], bx := [], outs := .one (.own c_q1), bxo := [], loops := [(0, lp_toRpcS_0)], noJoin := [], outC := [c_q1], prim := none }
noncomputable def en_toRpc : Entry := { f := 57, fn := Tryz.f57, ins := [.agg [(.int .i64), (.int .i64), (.int .i64), (.int .i64), (.int .i64), (.int .i64), (.int .i64), (.sh c_iiis), .bool, .str]], bx := [], outs := .agg [(.int .i64), (.int .i64), (.int .i64), (.int .i64), (.int .i64), (.int .i64), (.int .i64), (.own c_iiis), .bool, .str], bxo := [], loops := [], noJoin := [], outC := [(.int .i64), (.int .i64), (.int .i64), (.int .i64), (.int .i64), (.int .i64), (.int .i64), c_iiis, .bool, .str], prim := none }
noncomputable def en_toSink : Entry := { f := 29, fn := Tryz.f29, ins := [.agg [(.int .i64), .str]], bx := [], outs := .agg [(.int .i64), .str], bxo := [], loops := [], noJoin := [], outC := [(.int .i64), .str], prim := none }
noncomputable def en_toCmdS : Entry := { f := 31, fn := Tryz.f31, ins := [.one (.sh c_iis)], bx := [], outs := .one (.own c_iis), bxo := [], loops := [(0, lp_toCmdS_0)], noJoin := [], outC := [c_iis], prim := none }
noncomputable def en_sLeader : Entry := { f := 12, fn := Tryz.f12, ins := [.agg [(.sh c_s), (.sh c_s), (.sh c_iis), (.sh c_iis), (.int .i64), (.sh c_q0), (.sh c_q1), (.int .i64), .str, (.sh c_i), (.sh c_i), (.sh c_iis)]], bx := [], outs := .one (.int .i64), bxo := [], loops := [(0, lp_sLeader_0)], noJoin := [7], outC := [(.int .i64)], prim := none }
noncomputable def en_sWorldOk : Entry := { f := 41, fn := Tryz.f41, ins := [.agg [(.sh c_s), (.sh c_s), (.sh c_iis), (.sh c_iis), (.int .i64), (.sh c_q0), (.sh c_q1), (.int .i64), .str, (.sh c_i), (.sh c_i), (.sh c_iis)]], bx := [], outs := .one .bool, bxo := [], loops := [(0, lp_sWorldOk_0), (2, lp_sWorldOk_2), (4, lp_sWorldOk_4)], noJoin := [6], outC := [.bool], prim := none }
noncomputable def en_sProgOk : Entry := { f := 65, fn := Tryz.f65, ins := [.agg [(.sh c_s), (.sh c_s), (.sh c_iis), (.sh c_iis)]], bx := [], outs := .one .bool, bxo := [], loops := [(0, lp_sProgOk_0), (2, lp_sProgOk_2)], noJoin := [9, 4], outC := [.bool], prim := none }
noncomputable def en_sl9Name : Entry := { f := 101, fn := Tryz.f101, ins := [.one .str], bx := [], outs := .one .bool, bxo := [], loops := [(0, lp_sl9Name_0)], noJoin := [], outC := [.bool], prim := none }
noncomputable def en_sl7Letter : Entry := { f := 141, fn := Tryz.f141, ins := [.one (.int .u8)], bx := [], outs := .one .bool, bxo := [], loops := [], noJoin := [], outC := [.bool], prim := none }
noncomputable def en_sl1In : Entry := { f := 43, fn := Tryz.f43, ins := [.one (.int .i64), .one (.int .i64), .one (.int .i64)], bx := [], outs := .one .bool, bxo := [], loops := [], noJoin := [], outC := [.bool], prim := none }
noncomputable def en_sKeyword : Entry := { f := 142, fn := Tryz.f142, ins := [.one .str], bx := [], outs := .one .bool, bxo := [], loops := [], noJoin := [], outC := [.bool], prim := none }
noncomputable def en_sl7Within : Entry := { f := 102, fn := Tryz.f102, ins := [.one (.sh c_s), .one .str], bx := [], outs := .one .bool, bxo := [], loops := [(0, lp_sl7Within_0)], noJoin := [], outC := [.bool], prim := none }
noncomputable def en_sl7Calls : Entry := { f := 171, fn := Tryz.f171, ins := [], bx := [], outs := .one (.own c_s), bxo := [], loops := [], noJoin := [], outC := [c_s], prim := none }
noncomputable def en_sOpsOk : Entry := { f := 103, fn := Tryz.f103, ins := [.one (.sh c_iis), .one (.int .i64), .one (.int .i64)], bx := [], outs := .one .bool, bxo := [], loops := [(0, lp_sOpsOk_0)], noJoin := [], outC := [.bool], prim := none }
noncomputable def en_sl13Op : Entry := { f := 143, fn := Tryz.f143, ins := [.agg [(.int .i64), (.int .i64), .str], .one (.int .i64), .one (.int .i64), .one (.int .i64)], bx := [], outs := .one .bool, bxo := [], loops := [], noJoin := [], outC := [.bool], prim := none }
noncomputable def en_sDecOk : Entry := { f := 172, fn := Tryz.f172, ins := [.one (.int .i64)], bx := [], outs := .one .bool, bxo := [], loops := [], noJoin := [], outC := [.bool], prim := none }
noncomputable def en_sRexParse : Entry := { f := 173, fn := Tryz.f173, ins := [.one .str], bx := [], outs := .tup [.agg [(.int .i64), (.int .i64), .str, .bool, (.own c_Tiisb)], .one .bool], bxo := [], loops := [], noJoin := [], outC := [(.int .i64), (.int .i64), .str, .bool, c_Tiisb, .bool], prim := none }
noncomputable def en_sl3Pattern : Entry := { f := 197, fn := Tryz.f197, ins := [.one (.pb 5000 0), .one (.int .i64)], bx := [(5000, [.str, (.int .i64), .bool])], outs := .agg [(.int .i64), (.int .i64), .str, .bool, (.own c_Tiisb)], bxo := [[.str, (.int .i64), .bool]], loops := [(0, lp_sl3Pattern_0)], noJoin := [], outC := [(.int .i64), (.int .i64), .str, .bool, c_Tiisb, .str, (.int .i64), .bool], prim := none }
noncomputable def en_sl3Part : Entry := { f := 206, fn := Tryz.f206, ins := [.one (.pb 5000 0), .one (.int .i64)], bx := [(5000, [.str, (.int .i64), .bool])], outs := .agg [(.int .i64), (.int .i64), .str, .bool, (.own c_Tiisb)], bxo := [[.str, (.int .i64), .bool]], loops := [(0, lp_sl3Part_0)], noJoin := [2], outC := [(.int .i64), (.int .i64), .str, .bool, c_Tiisb, .str, (.int .i64), .bool], prim := none }
noncomputable def en_sl3Piece : Entry := { f := 219, fn := Tryz.f219, ins := [.one (.pb 5000 0), .one (.int .i64)], bx := [(5000, [.str, (.int .i64), .bool])], outs := .agg [(.int .i64), (.int .i64), .str, .bool, (.own c_Tiisb)], bxo := [[.str, (.int .i64), .bool]], loops := [(0, lp_sl3Piece_0)], noJoin := [], outC := [(.int .i64), (.int .i64), .str, .bool, c_Tiisb, .str, (.int .i64), .bool], prim := none }
noncomputable def en_sl3Atom : Entry := { f := 236, fn := Tryz.f236, ins := [.one (.pb 5000 0), .one (.int .i64)], bx := [(5000, [.str, (.int .i64), .bool])], outs := .agg [(.int .i64), (.int .i64), .str, .bool, (.own c_Tiisb)], bxo := [[.str, (.int .i64), .bool]], loops := [], noJoin := [], outC := [(.int .i64), (.int .i64), .str, .bool, c_Tiisb, .str, (.int .i64), .bool], prim := none }
noncomputable def en_sl3Now : Entry := { f := 207, fn := Tryz.f207, ins := [.one (.pb 5000 0), .one (.int .u8)], bx := [(5000, [.str, (.int .i64), .bool])], outs := .one .bool, bxo := [[.str, (.int .i64), .bool]], loops := [], noJoin := [], outC := [.bool, .str, (.int .i64), .bool], prim := none }
noncomputable def en_sl3Set : Entry := { f := 245, fn := Tryz.f245, ins := [.one (.pb 5000 0)], bx := [(5000, [.str, (.int .i64), .bool])], outs := .agg [(.int .i64), (.int .i64), .str, .bool, .nl], bxo := [[.str, (.int .i64), .bool]], loops := [(2, lp_sl3Set_2), (0, lp_sl3Set_0), (4, lp_sl3Set_4)], noJoin := [11, 7], outC := [(.int .i64), (.int .i64), .str, .bool, .str, (.int .i64), .bool], prim := none }
noncomputable def en_sl3Deep : Entry := { f := 198, fn := Tryz.f198, ins := [.agg [(.int .i64), (.int .i64), .str, .bool, (.sh c_Tiisb)]], bx := [], outs := .one (.int .i64), bxo := [], loops := [(0, lp_sl3Deep_0)], noJoin := [], outC := [(.int .i64)], prim := none }
noncomputable def en_sl1Max : Entry := { f := 208, fn := Tryz.f208, ins := [.one (.int .i64), .one (.int .i64)], bx := [], outs := .one (.int .i64), bxo := [], loops := [], noJoin := [], outC := [(.int .i64)], prim := none }
noncomputable def en_sSinkOk : Entry := { f := 66, fn := Tryz.f66, ins := [.agg [(.int .i64), .str]], bx := [], outs := .one .bool, bxo := [], loops := [], noJoin := [], outC := [.bool], prim := none }
noncomputable def en_sl26Nums : Entry := { f := 67, fn := Tryz.f67, ins := [.one (.sh c_i)], bx := [], outs := .one .bool, bxo := [], loops := [(0, lp_sl26Nums_0)], noJoin := [], outC := [.bool], prim := none }
noncomputable def en_sPeerOk : Entry := { f := 68, fn := Tryz.f68, ins := [.agg [(.sh c_s), (.sh c_s), (.sh c_iis), (.sh c_iis)], .agg [(.int .i64), (.int .i64), (.int .i64), (.int .i64), (.int .i64), (.sh c_iiis), (.sh c_iis), (.sh c_isiis), (.int .i64), (.int .i64), (.sh c_i), .str, (.int .i64), (.sh c_b), (.sh c_i), (.sh c_i), (.int .i64), (.sh c_iis), (.sh c_isiis), (.int .i64), (.int .i64), (.sh c_i), .str, (.sh c_u), (.int .i64), (.sh c_q1)], .one (.int .i64)], bx := [], outs := .one .bool, bxo := [], loops := [(0, lp_sPeerOk_0), (2, lp_sPeerOk_2)], noJoin := [12, 7], outC := [.bool], prim := none }
noncomputable def en_sHardOk : Entry := { f := 104, fn := Tryz.f104, ins := [.agg [(.sh c_s), (.sh c_s), (.sh c_iis), (.sh c_iis)], .agg [(.int .i64), (.int .i64), (.int .i64), (.int .i64), (.sh c_iiis), (.sh c_iis), (.sh c_isiis), (.int .i64), (.int .i64), (.sh c_i), .str]], bx := [], outs := .one .bool, bxo := [], loops := [], noJoin := [], outC := [.bool], prim := none }
noncomputable def en_sLastOf : Entry := { f := 52, fn := Tryz.f52, ins := [.agg [(.int .i64), (.int .i64), (.sh c_iiis)]], bx := [], outs := .tup [.one (.int .i64), .one (.int .i64)], bxo := [], loops := [], noJoin := [], outC := [(.int .i64), (.int .i64)], prim := none }
noncomputable def en_sLogOk : Entry := { f := 144, fn := Tryz.f144, ins := [.agg [(.int .i64), (.int .i64), (.sh c_iiis)]], bx := [], outs := .one .bool, bxo := [], loops := [(0, lp_sLogOk_0)], noJoin := [7], outC := [.bool], prim := none }
noncomputable def en_sCmdOk : Entry := { f := 70, fn := Tryz.f70, ins := [.agg [(.int .i64), (.int .i64), .str]], bx := [], outs := .one .bool, bxo := [], loops := [], noJoin := [], outC := [.bool], prim := none }
noncomputable def en_sl9Line : Entry := { f := 108, fn := Tryz.f108, ins := [.one .str], bx := [], outs := .one .bool, bxo := [], loops := [(0, lp_sl9Line_0)], noJoin := [], outC := [.bool], prim := none }
noncomputable def en_sMachOk : Entry := { f := 105, fn := Tryz.f105, ins := [.agg [(.sh c_s), (.sh c_s), (.sh c_iis), (.sh c_iis)], .agg [(.sh c_iis), (.sh c_isiis), (.int .i64), (.int .i64), (.sh c_i), .str]], bx := [], outs := .one .bool, bxo := [], loops := [(0, lp_sMachOk_0)], noJoin := [], outC := [.bool], prim := none }
noncomputable def en_sStateOk : Entry := { f := 145, fn := Tryz.f145, ins := [.agg [(.sh c_iis), (.sh c_isiis), (.int .i64), (.int .i64)], .one (.int .i64), .one (.int .i64)], bx := [], outs := .one .bool, bxo := [], loops := [(0, lp_sStateOk_0), (2, lp_sStateOk_2)], noJoin := [10], outC := [.bool], prim := none }
noncomputable def en_sValOk : Entry := { f := 174, fn := Tryz.f174, ins := [.agg [(.int .i64), (.int .i64), .str]], bx := [], outs := .one .bool, bxo := [], loops := [], noJoin := [], outC := [.bool], prim := none }
noncomputable def en_sDecLooks : Entry := { f := 199, fn := Tryz.f199, ins := [.one .str], bx := [], outs := .tup [.one (.int .i64), .one .bool], bxo := [], loops := [(0, lp_sDecLooks_0)], noJoin := [], outC := [(.int .i64), .bool], prim := none }
noncomputable def en_sDecFront : Entry := { f := 209, fn := Tryz.f209, ins := [.one .str], bx := [], outs := .tup [.one (.int .i64), .one (.int .i64)], bxo := [], loops := [(0, lp_sDecFront_0), (2, lp_sDecFront_2), (4, lp_sDecFront_4)], noJoin := [16, 8, 2], outC := [(.int .i64), (.int .i64)], prim := none }
noncomputable def en_sl2Digit : Entry := { f := 220, fn := Tryz.f220, ins := [.one (.int .u8)], bx := [], outs := .one .bool, bxo := [], loops := [], noJoin := [], outC := [.bool], prim := none }
noncomputable def en_sl11Less : Entry := { f := 175, fn := Tryz.f175, ins := [.agg [(.int .i64), .str, (.int .i64), (.int .i64), .str], .one (.int .i64), .one .str], bx := [], outs := .one .bool, bxo := [], loops := [], noJoin := [], outC := [.bool], prim := none }
noncomputable def en_sRpcOk : Entry := { f := 69, fn := Tryz.f69, ins := [.agg [(.int .i64), (.int .i64), (.int .i64), (.int .i64), (.int .i64), (.int .i64), (.int .i64), (.sh c_iiis), .bool, .str], .one (.int .i64)], bx := [], outs := .one .bool, bxo := [], loops := [], noJoin := [], outC := [.bool], prim := none }
noncomputable def en_sl19List : Entry := { f := 107, fn := Tryz.f107, ins := [.one (.sh c_iiis), .one (.int .i64)], bx := [], outs := .one .bool, bxo := [], loops := [(0, lp_sl19List_0)], noJoin := [4], outC := [.bool], prim := none }
noncomputable def en_sDiskOk : Entry := { f := 106, fn := Tryz.f106, ins := [.agg [(.sh c_u), (.int .i64)]], bx := [], outs := .one .bool, bxo := [], loops := [], noJoin := [], outC := [.bool], prim := none }
noncomputable def en_iLeader : Entry := { f := 13, fn := Tryz.f13, ins := [.agg [(.sh c_s), (.sh c_s), (.sh c_iis), (.sh c_iis), (.int .i64), (.sh c_q0), (.sh c_q1), (.int .i64), .str, (.sh c_i), (.sh c_i), (.sh c_iis)]], bx := [], outs := .one (.int .i64), bxo := [], loops := [(0, lp_iLeader_0)], noJoin := [7], outC := [(.int .i64)], prim := none }
noncomputable def en_iWorldOk : Entry := { f := 42, fn := Tryz.f42, ins := [.agg [(.sh c_s), (.sh c_s), (.sh c_iis), (.sh c_iis), (.int .i64), (.sh c_q0), (.sh c_q1), (.int .i64), .str, (.sh c_i), (.sh c_i), (.sh c_iis)]], bx := [], outs := .one .bool, bxo := [], loops := [(0, lp_iWorldOk_0)], noJoin := [9, 6], outC := [.bool], prim := none }
noncomputable def en_iProgOk : Entry := { f := 71, fn := Tryz.f71, ins := [.agg [(.sh c_s), (.sh c_s), (.sh c_iis), (.sh c_iis)]], bx := [], outs := .one .bool, bxo := [], loops := [], noJoin := [1], outC := [.bool], prim := none }
noncomputable def en_inamesOk : Entry := { f := 109, fn := Tryz.f109, ins := [.one (.sh c_s)], bx := [], outs := .one .bool, bxo := [], loops := [(0, lp_inamesOk_0)], noJoin := [4], outC := [.bool], prim := none }
noncomputable def en_iisName : Entry := { f := 146, fn := Tryz.f146, ins := [.one .str], bx := [], outs := .one .bool, bxo := [], loops := [], noJoin := [], outC := [.bool], prim := none }
noncomputable def en_iin : Entry := { f := 45, fn := Tryz.f45, ins := [.one (.int .i64), .one (.int .i64), .one (.int .i64)], bx := [], outs := .one .bool, bxo := [], loops := [], noJoin := [], outC := [.bool], prim := none }
noncomputable def en_ilettersAt : Entry := { f := 176, fn := Tryz.f176, ins := [.one .str, .one (.int .i64)], bx := [], outs := .one (.int .i64), bxo := [], loops := [(0, lp_ilettersAt_0)], noJoin := [2], outC := [(.int .i64)], prim := none }
noncomputable def en_iisLetter : Entry := { f := 200, fn := Tryz.f200, ins := [.one (.int .u8)], bx := [], outs := .one .bool, bxo := [], loops := [], noJoin := [], outC := [.bool], prim := none }
noncomputable def en_iKeyword : Entry := { f := 177, fn := Tryz.f177, ins := [.one .str], bx := [], outs := .one .bool, bxo := [], loops := [], noJoin := [], outC := [.bool], prim := none }
noncomputable def en_icalls : Entry := { f := 182, fn := Tryz.f182, ins := [], bx := [], outs := .one (.own c_s), bxo := [], loops := [], noJoin := [], outC := [c_s], prim := none }
noncomputable def en_slices_Contains_string_string : Entry := { f := 112, fn := Tryz.f112, ins := [.one (.sh c_s), .one .str], bx := [], outs := .one .bool, bxo := [], loops := [], noJoin := [], outC := [.bool], prim := none }
noncomputable def en_slices_Index_string_string : Entry := { f := 148, fn := Tryz.f148, ins := [.one (.sh c_s), .one .str], bx := [], outs := .one (.int .i64), bxo := [], loops := [(0, lp_slices_Index_string_string_0)], noJoin := [], outC := [(.int .i64)], prim := none }
noncomputable def en_slices_ContainsFunc_string_string : Entry := { f := 110, fn := Tryz.f110, ins := [.one (.sh c_s), .one (.fn 111 [] [(.pb 5000 0)])], bx := [(5000, [(.sh c_s), (.sh c_s), (.sh c_iis), (.sh c_iis)])], outs := .one .bool, bxo := [[(.sh c_s), (.sh c_s), (.sh c_iis), (.sh c_iis)]], loops := [], noJoin := [], outC := [.bool, c_s, c_s, c_iis, c_iis], prim := none }
noncomputable def en_slices_IndexFunc_string_string : Entry := { f := 147, fn := Tryz.f147, ins := [.one (.sh c_s), .one (.fn 111 [] [(.pb 5000 0)])], bx := [(5000, [(.sh c_s), (.sh c_s), (.sh c_iis), (.sh c_iis)])], outs := .one (.int .i64), bxo := [[(.sh c_s), (.sh c_s), (.sh c_iis), (.sh c_iis)]], loops := [(0, lp_slices_IndexFunc_string_string_0)], noJoin := [], outC := [(.int .i64), c_s, c_s, c_iis, c_iis], prim := none }
noncomputable def en_iProgOk_1 : Entry := { f := 111, fn := Tryz.f111, ins := [.one .str, .one (.pb 5000 0)], bx := [(5000, [(.sh c_s), (.sh c_s), (.sh c_iis), (.sh c_iis)])], outs := .one .bool, bxo := [[(.sh c_s), (.sh c_s), (.sh c_iis), (.sh c_iis)]], loops := [], noJoin := [], outC := [.bool, c_s, c_s, c_iis, c_iis], prim := none }
noncomputable def en_iOpsOk : Entry := { f := 113, fn := Tryz.f113, ins := [.one (.sh c_iis), .one (.int .i64), .one (.int .i64)], bx := [], outs := .one .bool, bxo := [], loops := [], noJoin := [], outC := [.bool], prim := none }
noncomputable def en_slices_ContainsFunc_impl_Op_impl_Op : Entry := { f := 149, fn := Tryz.f149, ins := [.one (.sh c_iis), .one (.fn 150 [] [(.pb 5000 0), (.pb 5001 0), (.pb 5002 0)])], bx := [(5000, [(.sh c_iis)]), (5001, [(.int .i64)]), (5002, [(.int .i64)])], outs := .one .bool, bxo := [[(.sh c_iis)], [(.int .i64)], [(.int .i64)]], loops := [], noJoin := [], outC := [.bool, c_iis, (.int .i64), (.int .i64)], prim := none }
noncomputable def en_slices_IndexFunc_impl_Op_impl_Op : Entry := { f := 178, fn := Tryz.f178, ins := [.one (.sh c_iis), .one (.fn 150 [] [(.pb 5000 0), (.pb 5001 0), (.pb 5002 0)])], bx := [(5000, [(.sh c_iis)]), (5001, [(.int .i64)]), (5002, [(.int .i64)])], outs := .one (.int .i64), bxo := [[(.sh c_iis)], [(.int .i64)], [(.int .i64)]], loops := [(0, lp_slices_IndexFunc_impl_Op_impl_Op_0)], noJoin := [], outC := [(.int .i64), c_iis, (.int .i64), (.int .i64)], prim := none }
noncomputable def en_iOpsOk_1 : Entry := { f := 150, fn := Tryz.f150, ins := [.agg [(.int .i64), (.int .i64), .str], .one (.pb 5000 0), .one (.pb 5001 0), .one (.pb 5002 0)], bx := [(5000, [(.sh c_iis)]), (5001, [(.int .i64)]), (5002, [(.int .i64)])], outs := .one .bool, bxo := [[(.sh c_iis)], [(.int .i64)], [(.int .i64)]], loops := [], noJoin := [], outC := [.bool, c_iis, (.int .i64), (.int .i64)], prim := none }
noncomputable def en_iopRight : Entry := { f := 151, fn := Tryz.f151, ins := [.agg [(.int .i64), (.int .i64), .str], .one (.int .i64), .one (.int .i64), .one (.int .i64)], bx := [], outs := .one .bool, bxo := [], loops := [], noJoin := [], outC := [.bool], prim := none }
noncomputable def en_iopName : Entry := { f := 179, fn := Tryz.f179, ins := [.one (.int .i64)], bx := [], outs := .tup [.one .str, .one .str], bxo := [], loops := [], noJoin := [], outC := [.str, .str], prim := none }
noncomputable def en_iDecOk : Entry := { f := 180, fn := Tryz.f180, ins := [.one (.int .i64)], bx := [], outs := .one .bool, bxo := [], loops := [], noJoin := [], outC := [.bool], prim := none }
noncomputable def en_iisRex : Entry := { f := 181, fn := Tryz.f181, ins := [.one .str], bx := [], outs := .one .bool, bxo := [], loops := [], noJoin := [], outC := [.bool], prim := none }
noncomputable def en_iRexParse : Entry := { f := 201, fn := Tryz.f201, ins := [.one .str], bx := [], outs := .tup [.agg [(.int .i64), (.int .i64), .str, .bool, (.own c_Tiisb)], .one .bool], bxo := [], loops := [], noJoin := [], outC := [(.int .i64), (.int .i64), .str, .bool, c_Tiisb, .bool], prim := none }
noncomputable def en_irexReader_pattern : Entry := { f := 210, fn := Tryz.f210, ins := [.one (.pb 5000 0)], bx := [(5000, [.str, .bool])], outs := .agg [(.int .i64), (.int .i64), .str, .bool, (.own c_Tiisb)], bxo := [[.str, .bool]], loops := [(0, lp_irexReader_pattern_0)], noJoin := [], outC := [(.int .i64), (.int .i64), .str, .bool, c_Tiisb, .str, .bool], prim := none }
noncomputable def en_irexReader_part : Entry := { f := 221, fn := Tryz.f221, ins := [.one (.pb 5000 0)], bx := [(5000, [.str, .bool])], outs := .agg [(.int .i64), (.int .i64), .str, .bool, (.own c_Tiisb)], bxo := [[.str, .bool]], loops := [(0, lp_irexReader_part_0)], noJoin := [3], outC := [(.int .i64), (.int .i64), .str, .bool, c_Tiisb, .str, .bool], prim := none }
noncomputable def en_irexReader_next : Entry := { f := 237, fn := Tryz.f237, ins := [.one (.pb 5000 0)], bx := [(5000, [.str, .bool])], outs := .tup [.one (.int .u8), .one .bool], bxo := [[.str, .bool]], loops := [], noJoin := [], outC := [(.int .u8), .bool, .str, .bool], prim := none }
noncomputable def en_irexReader_piece : Entry := { f := 238, fn := Tryz.f238, ins := [.one (.pb 5000 0)], bx := [(5000, [.str, .bool])], outs := .agg [(.int .i64), (.int .i64), .str, .bool, (.own c_Tiisb)], bxo := [[.str, .bool]], loops := [(0, lp_irexReader_piece_0)], noJoin := [3], outC := [(.int .i64), (.int .i64), .str, .bool, c_Tiisb, .str, .bool], prim := none }
noncomputable def en_irexReader_atom : Entry := { f := 246, fn := Tryz.f246, ins := [.one (.pb 5000 0)], bx := [(5000, [.str, .bool])], outs := .agg [(.int .i64), (.int .i64), .str, .bool, (.own c_Tiisb)], bxo := [[.str, .bool]], loops := [], noJoin := [], outC := [(.int .i64), (.int .i64), .str, .bool, c_Tiisb, .str, .bool], prim := none }
noncomputable def en_irexReader_take : Entry := { f := 222, fn := Tryz.f222, ins := [.one (.pb 5000 0), .one (.int .u8)], bx := [(5000, [.str, .bool])], outs := .one .bool, bxo := [[.str, .bool]], loops := [], noJoin := [], outC := [.bool, .str, .bool], prim := none }
noncomputable def en_irexReader_set : Entry := { f := 253, fn := Tryz.f253, ins := [.one (.pb 5000 0)], bx := [(5000, [.str, .bool])], outs := .agg [(.int .i64), (.int .i64), .str, .bool, .nl], bxo := [[.str, .bool]], loops := [(2, lp_irexReader_set_2), (0, lp_irexReader_set_0), (4, lp_irexReader_set_4)], noJoin := [13], outC := [(.int .i64), (.int .i64), .str, .bool, .str, .bool], prim := none }
noncomputable def en_strings_IndexByte : Entry := { f := 259, fn := Tryz.f259, ins := [.one .str, .one (.int .u8)], bx := [], outs := .one (.int .i64), bxo := [], loops := [], noJoin := [], outC := [(.int .i64)], prim := some primIndexByte }
noncomputable def en_irepeatOf : Entry := { f := 247, fn := Tryz.f247, ins := [.one (.int .u8)], bx := [], outs := .one (.int .i64), bxo := [], loops := [], noJoin := [], outC := [(.int .i64)], prim := none }
noncomputable def en_irexDeep : Entry := { f := 211, fn := Tryz.f211, ins := [.agg [(.int .i64), (.int .i64), .str, .bool, (.sh c_Tiisb)]], bx := [], outs := .one (.int .i64), bxo := [], loops := [(0, lp_irexDeep_0)], noJoin := [], outC := [(.int .i64)], prim := none }
noncomputable def en_iSinkOk : Entry := { f := 72, fn := Tryz.f72, ins := [.agg [(.int .i64), .str]], bx := [], outs := .one .bool, bxo := [], loops := [], noJoin := [], outC := [.bool], prim := none }
noncomputable def en_iisIndex : Entry := { f := 114, fn := Tryz.f114, ins := [.one (.int .i64)], bx := [], outs := .one .bool, bxo := [], loops := [], noJoin := [], outC := [.bool], prim := none }
noncomputable def en_iPeerOk : Entry := { f := 73, fn := Tryz.f73, ins := [.agg [(.sh c_s), (.sh c_s), (.sh c_iis), (.sh c_iis)], .agg [(.int .i64), (.int .i64), (.int .i64), (.int .i64), (.int .i64), (.sh c_iiis), (.sh c_iis), (.sh c_isiis), (.int .i64), (.int .i64), (.sh c_i), .str, (.int .i64), (.sh c_b), (.sh c_i), (.sh c_i), (.int .i64), (.sh c_iis), (.sh c_isiis), (.int .i64), (.int .i64), (.sh c_i), .str, (.sh c_u), (.int .i64), (.sh c_q1)], .one (.int .i64)], bx := [], outs := .one .bool, bxo := [], loops := [], noJoin := [], outC := [.bool], prim := none }
noncomputable def en_iHardOk : Entry := { f := 115, fn := Tryz.f115, ins := [.agg [(.sh c_s), (.sh c_s), (.sh c_iis), (.sh c_iis)], .agg [(.int .i64), (.int .i64), (.int .i64), (.int .i64), (.sh c_iiis), (.sh c_iis), (.sh c_isiis), (.int .i64), (.int .i64), (.sh c_i), .str]], bx := [], outs := .one .bool, bxo := [], loops := [], noJoin := [], outC := [.bool], prim := none }
noncomputable def en_iLastOf : Entry := { f := 46, fn := Tryz.f46, ins := [.agg [(.int .i64), (.int .i64), (.sh c_iiis)]], bx := [], outs := .tup [.one (.int .i64), .one (.int .i64)], bxo := [], loops := [], noJoin := [], outC := [(.int .i64), (.int .i64)], prim := none }
noncomputable def en_iisVote : Entry := { f := 152, fn := Tryz.f152, ins := [.one (.int .i64)], bx := [], outs := .one .bool, bxo := [], loops := [], noJoin := [], outC := [.bool], prim := none }
noncomputable def en_iLogOk : Entry := { f := 153, fn := Tryz.f153, ins := [.agg [(.int .i64), (.int .i64), (.sh c_iiis)]], bx := [], outs := .one .bool, bxo := [], loops := [(0, lp_iLogOk_0)], noJoin := [7], outC := [.bool], prim := none }
noncomputable def en_iCmdOk : Entry := { f := 80, fn := Tryz.f80, ins := [.agg [(.int .i64), (.int .i64), .str]], bx := [], outs := .one .bool, bxo := [], loops := [], noJoin := [], outC := [.bool], prim := none }
noncomputable def en_ilineOk : Entry := { f := 124, fn := Tryz.f124, ins := [.one .str], bx := [], outs := .one .bool, bxo := [], loops := [], noJoin := [], outC := [.bool], prim := none }
noncomputable def en_strings_Contains : Entry := { f := 159, fn := Tryz.f159, ins := [.one .str, .one .str], bx := [], outs := .one .bool, bxo := [], loops := [], noJoin := [], outC := [.bool], prim := some primContains }
noncomputable def en_iMachOk : Entry := { f := 116, fn := Tryz.f116, ins := [.agg [(.sh c_s), (.sh c_s), (.sh c_iis), (.sh c_iis)], .agg [(.sh c_iis), (.sh c_isiis), (.int .i64), (.int .i64), (.sh c_i), .str]], bx := [], outs := .one .bool, bxo := [], loops := [], noJoin := [], outC := [.bool], prim := none }
noncomputable def en_iStateOk : Entry := { f := 154, fn := Tryz.f154, ins := [.agg [(.sh c_iis), (.sh c_isiis), (.int .i64), (.int .i64)], .one (.int .i64), .one (.int .i64)], bx := [], outs := .one .bool, bxo := [], loops := [(0, lp_iStateOk_0)], noJoin := [6], outC := [.bool], prim := none }
noncomputable def en_slices_ContainsFunc_impl_Val_impl_Val : Entry := { f := 183, fn := Tryz.f183, ins := [.one (.sh c_iis), .one (.fn 184 [] [])], bx := [], outs := .one .bool, bxo := [], loops := [], noJoin := [], outC := [.bool], prim := none }
noncomputable def en_slices_IndexFunc_impl_Val_impl_Val : Entry := { f := 202, fn := Tryz.f202, ins := [.one (.sh c_iis), .one (.fn 184 [] [])], bx := [], outs := .one (.int .i64), bxo := [], loops := [(0, lp_slices_IndexFunc_impl_Val_impl_Val_0)], noJoin := [], outC := [(.int .i64)], prim := none }
noncomputable def en_iStateOk_1 : Entry := { f := 184, fn := Tryz.f184, ins := [.agg [(.int .i64), (.int .i64), .str]], bx := [], outs := .one .bool, bxo := [], loops := [], noJoin := [], outC := [.bool], prim := none }
noncomputable def en_iValOk : Entry := { f := 185, fn := Tryz.f185, ins := [.agg [(.int .i64), (.int .i64), .str]], bx := [], outs := .one .bool, bxo := [], loops := [], noJoin := [], outC := [.bool], prim := none }
noncomputable def en_iDecLooks : Entry := { f := 203, fn := Tryz.f203, ins := [.one .str], bx := [], outs := .tup [.one (.int .i64), .one .bool], bxo := [], loops := [], noJoin := [], outC := [(.int .i64), .bool], prim := none }
noncomputable def en_iDecFront : Entry := { f := 212, fn := Tryz.f212, ins := [.one .str], bx := [], outs := .tup [.one (.int .i64), .one (.int .i64)], bxo := [], loops := [], noJoin := [], outC := [(.int .i64), (.int .i64)], prim := none }
noncomputable def en_strings_TrimLeft : Entry := { f := 223, fn := Tryz.f223, ins := [.one .str, .one .str], bx := [], outs := .one .str, bxo := [], loops := [], noJoin := [], outC := [.str], prim := none }
noncomputable def en_strings_trimLeftByte : Entry := { f := 226, fn := Tryz.f226, ins := [.one .str, .one (.int .u8)], bx := [], outs := .one .str, bxo := [], loops := [(0, lp_strings_trimLeftByte_0)], noJoin := [1], outC := [.str], prim := none }
noncomputable def en_idigitsAt : Entry := { f := 224, fn := Tryz.f224, ins := [.one .str, .one (.int .i64)], bx := [], outs := .one (.int .i64), bxo := [], loops := [(0, lp_idigitsAt_0)], noJoin := [2], outC := [(.int .i64)], prim := none }
noncomputable def en_imillionths : Entry := { f := 225, fn := Tryz.f225, ins := [.one .str, .one .str], bx := [], outs := .tup [.one (.int .i64), .one .bool], bxo := [], loops := [], noJoin := [], outC := [(.int .i64), .bool], prim := none }
noncomputable def en_strconv_Atoi : Entry := { f := 239, fn := Tryz.f239, ins := [.one .str], bx := [], outs := .tup [.one (.int .i64), .one .er], bxo := [], loops := [], noJoin := [], outC := [(.int .i64), .bool], prim := some primAtoi }
noncomputable def en_iright : Entry := { f := 240, fn := Tryz.f240, ins := [.one (.int .i64)], bx := [], outs := .tup [.one (.int .i64), .one .bool], bxo := [], loops := [], noJoin := [], outC := [(.int .i64), .bool], prim := none }
noncomputable def en_strings_Trim : Entry := { f := 213, fn := Tryz.f213, ins := [.one .str, .one .str], bx := [], outs := .one .str, bxo := [], loops := [], noJoin := [], outC := [.str], prim := none }
noncomputable def en_strings_trimRightByte : Entry := { f := 227, fn := Tryz.f227, ins := [.one .str, .one (.int .u8)], bx := [], outs := .one .str, bxo := [], loops := [(0, lp_strings_trimRightByte_0)], noJoin := [1], outC := [.str], prim := none }
noncomputable def en_icellBefore : Entry := { f := 186, fn := Tryz.f186, ins := [.agg [(.int .i64), .str, (.int .i64), (.int .i64), .str], .agg [(.int .i64), .str, (.int .i64), (.int .i64), .str]], bx := [], outs := .one (.int .i64), bxo := [], loops := [], noJoin := [], outC := [(.int .i64)], prim := none }
noncomputable def en_strings_Compare : Entry := { f := 204, fn := Tryz.f204, ins := [.one .str, .one .str], bx := [], outs := .one (.int .i64), bxo := [], loops := [], noJoin := [], outC := [(.int .i64)], prim := some primCompare }
noncomputable def en_slices_ContainsFunc_int_int : Entry := { f := 121, fn := Tryz.f121, ins := [.one (.sh c_i), .one (.fn 155 [] [])], bx := [], outs := .one .bool, bxo := [], loops := [], noJoin := [], outC := [.bool], prim := none }
noncomputable def en_slices_IndexFunc_int_int : Entry := { f := 158, fn := Tryz.f158, ins := [.one (.sh c_i), .one (.fn 155 [] [])], bx := [], outs := .one (.int .i64), bxo := [], loops := [(0, lp_slices_IndexFunc_int_int_0)], noJoin := [], outC := [(.int .i64)], prim := none }
noncomputable def en_iMachOk_1 : Entry := { f := 155, fn := Tryz.f155, ins := [.one (.int .i64)], bx := [], outs := .one .bool, bxo := [], loops := [], noJoin := [], outC := [.bool], prim := none }
noncomputable def en_inumbersOk : Entry := { f := 77, fn := Tryz.f77, ins := [.one (.sh c_i), .one (.int .i64), .one (.int .i64), .one (.int .i64)], bx := [], outs := .one .bool, bxo := [], loops := [], noJoin := [1], outC := [.bool], prim := none }
noncomputable def en_slices_ContainsFunc_int_int_2 : Entry := { f := 121, fn := Tryz.f121, ins := [.one (.sh c_i), .one (.fn 122 [] [(.pb 5000 0), (.pb 5001 0)])], bx := [(5000, [(.int .i64)]), (5001, [(.int .i64)])], outs := .one .bool, bxo := [[(.int .i64)], [(.int .i64)]], loops := [], noJoin := [], outC := [.bool, (.int .i64), (.int .i64)], prim := none }
noncomputable def en_slices_IndexFunc_int_int_2 : Entry := { f := 158, fn := Tryz.f158, ins := [.one (.sh c_i), .one (.fn 122 [] [(.pb 5000 0), (.pb 5001 0)])], bx := [(5000, [(.int .i64)]), (5001, [(.int .i64)])], outs := .one (.int .i64), bxo := [[(.int .i64)], [(.int .i64)]], loops := [(0, lp_slices_IndexFunc_int_int_2_0)], noJoin := [], outC := [(.int .i64), (.int .i64), (.int .i64)], prim := none }
noncomputable def en_inumbersOk_1 : Entry := { f := 122, fn := Tryz.f122, ins := [.one (.int .i64), .one (.pb 5000 0), .one (.pb 5001 0)], bx := [(5000, [(.int .i64)]), (5001, [(.int .i64)])], outs := .one .bool, bxo := [[(.int .i64)], [(.int .i64)]], loops := [], noJoin := [], outC := [.bool, (.int .i64), (.int .i64)], prim := none }
noncomputable def en_iDiskOk : Entry := { f := 117, fn := Tryz.f117, ins := [.agg [(.sh c_u), (.int .i64)]], bx := [], outs := .one .bool, bxo := [], loops := [], noJoin := [], outC := [.bool], prim := none }
noncomputable def en_slices_ContainsFunc_impl_Rpc_impl_Rpc : Entry := { f := 74, fn := Tryz.f74, ins := [.one (.sh c_q1), .one (.fn 118 [] [(.pb 5000 0), (.pb 5001 0)])], bx := [(5000, [(.int .i64)]), (5001, [(.int .i64), (.int .i64), (.int .i64), (.int .i64), (.int .i64), (.sh c_iiis), (.sh c_iis), (.sh c_isiis), (.int .i64), (.int .i64), (.sh c_i), .str, (.int .i64), (.sh c_b), (.sh c_i), (.sh c_i), (.int .i64), (.sh c_iis), (.sh c_isiis), (.int .i64), (.int .i64), (.sh c_i), .str, (.sh c_u), (.int .i64), (.sh c_q1)])], outs := .one .bool, bxo := [[(.int .i64)], [(.int .i64), (.int .i64), (.int .i64), (.int .i64), (.int .i64), (.sh c_iiis), (.sh c_iis), (.sh c_isiis), (.int .i64), (.int .i64), (.sh c_i), .str, (.int .i64), (.sh c_b), (.sh c_i), (.sh c_i), (.int .i64), (.sh c_iis), (.sh c_isiis), (.int .i64), (.int .i64), (.sh c_i), .str, (.sh c_u), (.int .i64), (.sh c_q1)]], loops := [], noJoin := [], outC := [.bool, (.int .i64), (.int .i64), (.int .i64), (.int .i64), (.int .i64), (.int .i64), c_iiis, c_iis, c_isiis, (.int .i64), (.int .i64), c_i, .str, (.int .i64), c_b, c_i, c_i, (.int .i64), c_iis, c_isiis, (.int .i64), (.int .i64), c_i, .str, c_u, (.int .i64), c_q1], prim := none }
noncomputable def en_slices_IndexFunc_impl_Rpc_impl_Rpc : Entry := { f := 119, fn := Tryz.f119, ins := [.one (.sh c_q1), .one (.fn 118 [] [(.pb 5000 0), (.pb 5001 0)])], bx := [(5000, [(.int .i64)]), (5001, [(.int .i64), (.int .i64), (.int .i64), (.int .i64), (.int .i64), (.sh c_iiis), (.sh c_iis), (.sh c_isiis), (.int .i64), (.int .i64), (.sh c_i), .str, (.int .i64), (.sh c_b), (.sh c_i), (.sh c_i), (.int .i64), (.sh c_iis), (.sh c_isiis), (.int .i64), (.int .i64), (.sh c_i), .str, (.sh c_u), (.int .i64), (.sh c_q1)])], outs := .one (.int .i64), bxo := [[(.int .i64)], [(.int .i64), (.int .i64), (.int .i64), (.int .i64), (.int .i64), (.sh c_iiis), (.sh c_iis), (.sh c_isiis), (.int .i64), (.int .i64), (.sh c_i), .str, (.int .i64), (.sh c_b), (.sh c_i), (.sh c_i), (.int .i64), (.sh c_iis), (.sh c_isiis), (.int .i64), (.int .i64), (.sh c_i), .str, (.sh c_u), (.int .i64), (.sh c_q1)]], loops := [(0, lp_slices_IndexFunc_impl_Rpc_impl_Rpc_0)], noJoin := [], outC := [(.int .i64), (.int .i64), (.int .i64), (.int .i64), (.int .i64), (.int .i64), (.int .i64), c_iiis, c_iis, c_isiis, (.int .i64), (.int .i64), c_i, .str, (.int .i64), c_b, c_i, c_i, (.int .i64), c_iis, c_isiis, (.int .i64), (.int .i64), c_i, .str, c_u, (.int .i64), c_q1], prim := none }
noncomputable def en_iPeerOk_1 : Entry := { f := 118, fn := Tryz.f118, ins := [.agg [(.int .i64), (.int .i64), (.int .i64), (.int .i64), (.int .i64), (.int .i64), (.int .i64), (.sh c_iiis), .bool, .str], .one (.pb 5000 0), .one (.pb 5001 0)], bx := [(5000, [(.int .i64)]), (5001, [(.int .i64), (.int .i64), (.int .i64), (.int .i64), (.int .i64), (.sh c_iiis), (.sh c_iis), (.sh c_isiis), (.int .i64), (.int .i64), (.sh c_i), .str, (.int .i64), (.sh c_b), (.sh c_i), (.sh c_i), (.int .i64), (.sh c_iis), (.sh c_isiis), (.int .i64), (.int .i64), (.sh c_i), .str, (.sh c_u), (.int .i64), (.sh c_q1)])], outs := .one .bool, bxo := [[(.int .i64)], [(.int .i64), (.int .i64), (.int .i64), (.int .i64), (.int .i64), (.sh c_iiis), (.sh c_iis), (.sh c_isiis), (.int .i64), (.int .i64), (.sh c_i), .str, (.int .i64), (.sh c_b), (.sh c_i), (.sh c_i), (.int .i64), (.sh c_iis), (.sh c_isiis), (.int .i64), (.int .i64), (.sh c_i), .str, (.sh c_u), (.int .i64), (.sh c_q1)]], loops := [], noJoin := [], outC := [.bool, (.int .i64), (.int .i64), (.int .i64), (.int .i64), (.int .i64), (.int .i64), c_iiis, c_iis, c_isiis, (.int .i64), (.int .i64), c_i, .str, (.int .i64), c_b, c_i, c_i, (.int .i64), c_iis, c_isiis, (.int .i64), (.int .i64), c_i, .str, c_u, (.int .i64), c_q1], prim := none }
noncomputable def en_iRpcOk : Entry := { f := 76, fn := Tryz.f76, ins := [.agg [(.int .i64), (.int .i64), (.int .i64), (.int .i64), (.int .i64), (.int .i64), (.int .i64), (.sh c_iiis), .bool, .str], .one (.int .i64)], bx := [], outs := .one .bool, bxo := [], loops := [], noJoin := [], outC := [.bool], prim := none }
noncomputable def en_ientriesOk : Entry := { f := 120, fn := Tryz.f120, ins := [.one (.sh c_iiis), .one (.int .i64)], bx := [], outs := .one .bool, bxo := [], loops := [], noJoin := [1], outC := [.bool], prim := none }
noncomputable def en_slices_ContainsFunc_impl_Entry_impl_Entry : Entry := { f := 156, fn := Tryz.f156, ins := [.one (.sh c_iiis), .one (.fn 157 [] [(.pb 5000 0)])], bx := [(5000, [(.int .i64)])], outs := .one .bool, bxo := [[(.int .i64)]], loops := [], noJoin := [], outC := [.bool, (.int .i64)], prim := none }
noncomputable def en_slices_IndexFunc_impl_Entry_impl_Entry : Entry := { f := 187, fn := Tryz.f187, ins := [.one (.sh c_iiis), .one (.fn 157 [] [(.pb 5000 0)])], bx := [(5000, [(.int .i64)])], outs := .one (.int .i64), bxo := [[(.int .i64)]], loops := [(0, lp_slices_IndexFunc_impl_Entry_impl_Entry_0)], noJoin := [], outC := [(.int .i64), (.int .i64)], prim := none }
noncomputable def en_ientriesOk_1 : Entry := { f := 157, fn := Tryz.f157, ins := [.agg [(.int .i64), (.int .i64), (.int .i64), .str], .one (.pb 5000 0)], bx := [(5000, [(.int .i64)])], outs := .one .bool, bxo := [[(.int .i64)]], loops := [], noJoin := [], outC := [.bool, (.int .i64)], prim := none }
noncomputable def en_slices_ContainsFunc_impl_Rpc_impl_Rpc_2 : Entry := { f := 74, fn := Tryz.f74, ins := [.one (.sh c_q1), .one (.fn 75 [] [(.pb 5000 0)])], bx := [(5000, [(.sh c_s), (.sh c_s), (.sh c_iis), (.sh c_iis), (.int .i64), (.sh c_q0), (.sh c_q1), (.int .i64), .str, (.sh c_i), (.sh c_i), (.sh c_iis)])], outs := .one .bool, bxo := [[(.sh c_s), (.sh c_s), (.sh c_iis), (.sh c_iis), (.int .i64), (.sh c_q0), (.sh c_q1), (.int .i64), .str, (.sh c_i), (.sh c_i), (.sh c_iis)]], loops := [], noJoin := [], outC := [.bool, c_s, c_s, c_iis, c_iis, (.int .i64), c_q0, c_q1, (.int .i64), .str, c_i, c_i, c_iis], prim := none }
noncomputable def en_slices_IndexFunc_impl_Rpc_impl_Rpc_2 : Entry := { f := 119, fn := Tryz.f119, ins := [.one (.sh c_q1), .one (.fn 75 [] [(.pb 5000 0)])], bx := [(5000, [(.sh c_s), (.sh c_s), (.sh c_iis), (.sh c_iis), (.int .i64), (.sh c_q0), (.sh c_q1), (.int .i64), .str, (.sh c_i), (.sh c_i), (.sh c_iis)])], outs := .one (.int .i64), bxo := [[(.sh c_s), (.sh c_s), (.sh c_iis), (.sh c_iis), (.int .i64), (.sh c_q0), (.sh c_q1), (.int .i64), .str, (.sh c_i), (.sh c_i), (.sh c_iis)]], loops := [(0, lp_slices_IndexFunc_impl_Rpc_impl_Rpc_2_0)], noJoin := [], outC := [(.int .i64), c_s, c_s, c_iis, c_iis, (.int .i64), c_q0, c_q1, (.int .i64), .str, c_i, c_i, c_iis], prim := none }
noncomputable def en_iWorldOk_1 : Entry := { f := 75, fn := Tryz.f75, ins := [.agg [(.int .i64), (.int .i64), (.int .i64), (.int .i64), (.int .i64), (.int .i64), (.int .i64), (.sh c_iiis), .bool, .str], .one (.pb 5000 0)], bx := [(5000, [(.sh c_s), (.sh c_s), (.sh c_iis), (.sh c_iis), (.int .i64), (.sh c_q0), (.sh c_q1), (.int .i64), .str, (.sh c_i), (.sh c_i), (.sh c_iis)])], outs := .one .bool, bxo := [[(.sh c_s), (.sh c_s), (.sh c_iis), (.sh c_iis), (.int .i64), (.sh c_q0), (.sh c_q1), (.int .i64), .str, (.sh c_i), (.sh c_i), (.sh c_iis)]], loops := [], noJoin := [], outC := [.bool, c_s, c_s, c_iis, c_iis, (.int .i64), c_q0, c_q1, (.int .i64), .str, c_i, c_i, c_iis], prim := none }
noncomputable def en_slices_ContainsFunc_impl_Cmd_impl_Cmd : Entry := { f := 78, fn := Tryz.f78, ins := [.one (.sh c_iis), .one (.fn 79 [] [])], bx := [], outs := .one .bool, bxo := [], loops := [], noJoin := [], outC := [.bool], prim := none }
noncomputable def en_slices_IndexFunc_impl_Cmd_impl_Cmd : Entry := { f := 123, fn := Tryz.f123, ins := [.one (.sh c_iis), .one (.fn 79 [] [])], bx := [], outs := .one (.int .i64), bxo := [], loops := [(0, lp_slices_IndexFunc_impl_Cmd_impl_Cmd_0)], noJoin := [], outC := [(.int .i64)], prim := none }
noncomputable def en_iWorldOk_2 : Entry := { f := 79, fn := Tryz.f79, ins := [.agg [(.int .i64), (.int .i64), .str]], bx := [], outs := .one .bool, bxo := [], loops := [], noJoin := [], outC := [.bool], prim := none }
noncomputable def en_eqWorld : Entry := { f := 11, fn := Tryz.f11, ins := [.agg [(.sh c_s), (.sh c_s), (.sh c_iis), (.sh c_iis), (.int .i64), (.sh c_q0), (.sh c_q1), (.int .i64), .str, (.sh c_i), (.sh c_i), (.sh c_iis)], .agg [(.sh c_s), (.sh c_s), (.sh c_iis), (.sh c_iis), (.int .i64), (.sh c_q0), (.sh c_q1), (.int .i64), .str, (.sh c_i), (.sh c_i), (.sh c_iis)]], bx := [], outs := .one .bool, bxo := [], loops := [], noJoin := [], outC := [.bool], prim := none }
noncomputable def en_eqProg : Entry := { f := 35, fn := Tryz.f35, ins := [.agg [(.sh c_s), (.sh c_s), (.sh c_iis), (.sh c_iis)], .agg [(.sh c_s), (.sh c_s), (.sh c_iis), (.sh c_iis)]], bx := [], outs := .one .bool, bxo := [], loops := [], noJoin := [], outC := [.bool], prim := none }
noncomputable def en_eqStringS : Entry := { f := 60, fn := Tryz.f60, ins := [.one (.sh c_s), .one (.sh c_s)], bx := [], outs := .one .bool, bxo := [], loops := [(0, lp_eqStringS_0)], noJoin := [], outC := [.bool], prim := none }
noncomputable def en_eqOpS : Entry := { f := 61, fn := Tryz.f61, ins := [.one (.sh c_iis), .one (.sh c_iis)], bx := [], outs := .one .bool, bxo := [], loops := [(0, lp_eqOpS_0)], noJoin := [], outC := [.bool], prim := none }
noncomputable def en_eqOp : Entry := { f := 95, fn := Tryz.f95, ins := [.agg [(.int .i64), (.int .i64), .str], .agg [(.int .i64), (.int .i64), .str]], bx := [], outs := .one .bool, bxo := [], loops := [], noJoin := [], outC := [.bool], prim := none }
noncomputable def en_eqPeerS : Entry := { f := 36, fn := Tryz.f36, ins := [.one (.sh c_q0), .one (.sh c_q0)], bx := [], outs := .one .bool, bxo := [], loops := [(0, lp_eqPeerS_0)], noJoin := [], outC := [.bool], prim := none }
noncomputable def en_eqPeer : Entry := { f := 62, fn := Tryz.f62, ins := [.agg [(.int .i64), (.int .i64), (.int .i64), (.int .i64), (.int .i64), (.sh c_iiis), (.sh c_iis), (.sh c_isiis), (.int .i64), (.int .i64), (.sh c_i), .str, (.int .i64), (.sh c_b), (.sh c_i), (.sh c_i), (.int .i64), (.sh c_iis), (.sh c_isiis), (.int .i64), (.int .i64), (.sh c_i), .str, (.sh c_u), (.int .i64), (.sh c_q1)], .agg [(.int .i64), (.int .i64), (.int .i64), (.int .i64), (.int .i64), (.sh c_iiis), (.sh c_iis), (.sh c_isiis), (.int .i64), (.int .i64), (.sh c_i), .str, (.int .i64), (.sh c_b), (.sh c_i), (.sh c_i), (.int .i64), (.sh c_iis), (.sh c_isiis), (.int .i64), (.int .i64), (.sh c_i), .str, (.sh c_u), (.int .i64), (.sh c_q1)]], bx := [], outs := .one .bool, bxo := [], loops := [], noJoin := [], outC := [.bool], prim := none }
noncomputable def en_eqHard : Entry := { f := 96, fn := Tryz.f96, ins := [.agg [(.int .i64), (.int .i64), (.int .i64), (.int .i64), (.sh c_iiis), (.sh c_iis), (.sh c_isiis), (.int .i64), (.int .i64), (.sh c_i), .str], .agg [(.int .i64), (.int .i64), (.int .i64), (.int .i64), (.sh c_iiis), (.sh c_iis), (.sh c_isiis), (.int .i64), (.int .i64), (.sh c_i), .str]], bx := [], outs := .one .bool, bxo := [], loops := [], noJoin := [], outC := [.bool], prim := none }
noncomputable def en_eqLog : Entry := { f := 137, fn := Tryz.f137, ins := [.agg [(.int .i64), (.int .i64), (.sh c_iiis)], .agg [(.int .i64), (.int .i64), (.sh c_iiis)]], bx := [], outs := .one .bool, bxo := [], loops := [], noJoin := [], outC := [.bool], prim := none }
noncomputable def en_eqEntryS : Entry := { f := 100, fn := Tryz.f100, ins := [.one (.sh c_iiis), .one (.sh c_iiis)], bx := [], outs := .one .bool, bxo := [], loops := [(0, lp_eqEntryS_0)], noJoin := [], outC := [.bool], prim := none }
noncomputable def en_eqEntry : Entry := { f := 140, fn := Tryz.f140, ins := [.agg [(.int .i64), (.int .i64), (.int .i64), .str], .agg [(.int .i64), (.int .i64), (.int .i64), .str]], bx := [], outs := .one .bool, bxo := [], loops := [], noJoin := [], outC := [.bool], prim := none }
noncomputable def en_eqCmd : Entry := { f := 64, fn := Tryz.f64, ins := [.agg [(.int .i64), (.int .i64), .str], .agg [(.int .i64), (.int .i64), .str]], bx := [], outs := .one .bool, bxo := [], loops := [], noJoin := [], outC := [.bool], prim := none }
noncomputable def en_eqMach : Entry := { f := 98, fn := Tryz.f98, ins := [.agg [(.sh c_iis), (.sh c_isiis), (.int .i64), (.int .i64), (.sh c_i), .str], .agg [(.sh c_iis), (.sh c_isiis), (.int .i64), (.int .i64), (.sh c_i), .str]], bx := [], outs := .one .bool, bxo := [], loops := [], noJoin := [], outC := [.bool], prim := none }
noncomputable def en_eqState : Entry := { f := 138, fn := Tryz.f138, ins := [.agg [(.sh c_iis), (.sh c_isiis), (.int .i64), (.int .i64)], .agg [(.sh c_iis), (.sh c_isiis), (.int .i64), (.int .i64)]], bx := [], outs := .one .bool, bxo := [], loops := [], noJoin := [], outC := [.bool], prim := none }
noncomputable def en_eqValS : Entry := { f := 169, fn := Tryz.f169, ins := [.one (.sh c_iis), .one (.sh c_iis)], bx := [], outs := .one .bool, bxo := [], loops := [(0, lp_eqValS_0)], noJoin := [], outC := [.bool], prim := none }
noncomputable def en_eqVal : Entry := { f := 195, fn := Tryz.f195, ins := [.agg [(.int .i64), (.int .i64), .str], .agg [(.int .i64), (.int .i64), .str]], bx := [], outs := .one .bool, bxo := [], loops := [], noJoin := [], outC := [.bool], prim := none }
noncomputable def en_eqCellS : Entry := { f := 170, fn := Tryz.f170, ins := [.one (.sh c_isiis), .one (.sh c_isiis)], bx := [], outs := .one .bool, bxo := [], loops := [(0, lp_eqCellS_0)], noJoin := [], outC := [.bool], prim := none }
noncomputable def en_eqCell : Entry := { f := 196, fn := Tryz.f196, ins := [.agg [(.int .i64), .str, (.int .i64), (.int .i64), .str], .agg [(.int .i64), .str, (.int .i64), (.int .i64), .str]], bx := [], outs := .one .bool, bxo := [], loops := [], noJoin := [], outC := [.bool], prim := none }
noncomputable def en_eqIntS : Entry := { f := 39, fn := Tryz.f39, ins := [.one (.sh c_i), .one (.sh c_i)], bx := [], outs := .one .bool, bxo := [], loops := [(0, lp_eqIntS_0)], noJoin := [], outC := [.bool], prim := none }
noncomputable def en_eqBoolS : Entry := { f := 97, fn := Tryz.f97, ins := [.one (.sh c_b), .one (.sh c_b)], bx := [], outs := .one .bool, bxo := [], loops := [(0, lp_eqBoolS_0)], noJoin := [], outC := [.bool], prim := none }
noncomputable def en_eqDisk : Entry := { f := 99, fn := Tryz.f99, ins := [.agg [(.sh c_u), (.int .i64)], .agg [(.sh c_u), (.int .i64)]], bx := [], outs := .one .bool, bxo := [], loops := [], noJoin := [], outC := [.bool], prim := none }
noncomputable def en_eqByteS : Entry := { f := 139, fn := Tryz.f139, ins := [.one (.sh c_u), .one (.sh c_u)], bx := [], outs := .one .bool, bxo := [], loops := [(0, lp_eqByteS_0)], noJoin := [], outC := [.bool], prim := none }
noncomputable def en_eqRpcS : Entry := { f := 37, fn := Tryz.f37, ins := [.one (.sh c_q1), .one (.sh c_q1)], bx := [], outs := .one .bool, bxo := [], loops := [(0, lp_eqRpcS_0)], noJoin := [], outC := [.bool], prim := none }
noncomputable def en_eqRpc : Entry := { f := 63, fn := Tryz.f63, ins := [.agg [(.int .i64), (.int .i64), (.int .i64), (.int .i64), (.int .i64), (.int .i64), (.int .i64), (.sh c_iiis), .bool, .str], .agg [(.int .i64), (.int .i64), (.int .i64), (.int .i64), (.int .i64), (.int .i64), (.int .i64), (.sh c_iiis), .bool, .str]], bx := [], outs := .one .bool, bxo := [], loops := [], noJoin := [], outC := [.bool], prim := none }
noncomputable def en_eqSink : Entry := { f := 38, fn := Tryz.f38, ins := [.agg [(.int .i64), .str], .agg [(.int .i64), .str]], bx := [], outs := .one .bool, bxo := [], loops := [], noJoin := [], outC := [.bool], prim := none }
noncomputable def en_eqCmdS : Entry := { f := 40, fn := Tryz.f40, ins := [.one (.sh c_iis), .one (.sh c_iis)], bx := [], outs := .one .bool, bxo := [], loops := [(0, lp_eqCmdS_0)], noJoin := [], outC := [.bool], prim := none }
noncomputable def en_FnExactEven : Entry := { f := 5, fn := Tryz.f5, ins := [.agg [(.sh c_s), (.sh c_s), (.sh c_iis), (.sh c_iis), (.int .i64), (.sh c_q0), (.sh c_q1), (.int .i64), .str, (.sh c_i), (.sh c_i), (.sh c_iis)], .one (.int .i64)], bx := [], outs := .one .bool, bxo := [], loops := [], noJoin := [], outC := [.bool], prim := none }
noncomputable def en_sEven : Entry := { f := 14, fn := Tryz.f14, ins := [.agg [(.sh c_s), (.sh c_s), (.sh c_iis), (.sh c_iis), (.int .i64), (.sh c_q0), (.sh c_q1), (.int .i64), .str, (.sh c_i), (.sh c_i), (.sh c_iis)], .one (.int .i64)], bx := [], outs := .one .bool, bxo := [], loops := [], noJoin := [], outC := [.bool], prim := none }
noncomputable def en_sl28Even : Entry := { f := 44, fn := Tryz.f44, ins := [.agg [(.sh c_s), (.sh c_s), (.sh c_iis), (.sh c_iis), (.int .i64), (.sh c_q0), (.sh c_q1), (.int .i64), .str, (.sh c_i), (.sh c_i), (.sh c_iis)], .one (.int .i64)], bx := [], outs := .one .bool, bxo := [], loops := [(0, lp_sl28Even_0)], noJoin := [6], outC := [.bool], prim := none }
noncomputable def en_iEven : Entry := { f := 15, fn := Tryz.f15, ins := [.agg [(.sh c_s), (.sh c_s), (.sh c_iis), (.sh c_iis), (.int .i64), (.sh c_q0), (.sh c_q1), (.int .i64), .str, (.sh c_i), (.sh c_i), (.sh c_iis)], .one (.int .i64)], bx := [], outs := .one .bool, bxo := [], loops := [(0, lp_iEven_0)], noJoin := [8], outC := [.bool], prim := none }
noncomputable def en_FnExactJudgeLead : Entry := { f := 6, fn := Tryz.f6, ins := [.agg [(.sh c_s), (.sh c_s), (.sh c_iis), (.sh c_iis), (.int .i64), (.sh c_q0), (.sh c_q1), (.int .i64), .str, (.sh c_i), (.sh c_i), (.sh c_iis)]], bx := [], outs := .one .bool, bxo := [], loops := [], noJoin := [], outC := [.bool], prim := none }
noncomputable def en_sJudgeLead : Entry := { f := 16, fn := Tryz.f16, ins := [.agg [(.sh c_s), (.sh c_s), (.sh c_iis), (.sh c_iis), (.int .i64), (.sh c_q0), (.sh c_q1), (.int .i64), .str, (.sh c_i), (.sh c_i), (.sh c_iis)]], bx := [], outs := .one .bool, bxo := [], loops := [(2, lp_sJudgeLead_2), (0, lp_sJudgeLead_0)], noJoin := [9], outC := [.bool], prim := none }
noncomputable def en_iJudgeLead : Entry := { f := 17, fn := Tryz.f17, ins := [.agg [(.sh c_s), (.sh c_s), (.sh c_iis), (.sh c_iis), (.int .i64), (.sh c_q0), (.sh c_q1), (.int .i64), .str, (.sh c_i), (.sh c_i), (.sh c_iis)]], bx := [], outs := .one .bool, bxo := [], loops := [(2, lp_iJudgeLead_2), (0, lp_iJudgeLead_0)], noJoin := [9], outC := [.bool], prim := none }
noncomputable def tabL : List Entry := [en_FnExactLeader, en_szWorld, en_szProg, en_szStringS, en_szOpS, en_szOp, en_szPeerS, en_szPeer, en_szHard, en_szLog, en_szEntryS, en_szEntry, en_szCmd, en_szMach, en_szState, en_szValS, en_szVal, en_szCellS, en_szCell, en_szIntS, en_szBoolS, en_szDisk, en_szByteS, en_szRpcS, en_szRpc, en_szSink, en_szCmdS, en_toWorld, en_toProg, en_toStringS, en_toOpS, en_toOp, en_toPeerS, en_toPeer, en_toHard, en_toLog, en_toEntryS, en_toEntry, en_toCmd, en_toMach, en_toState, en_toValS, en_toVal, en_toCellS, en_toCell, en_toIntS, en_toBoolS, en_toDisk, en_toByteS, en_toRpcS, en_toRpc, en_toSink, en_toCmdS, en_sLeader, en_sWorldOk, en_sProgOk, en_sl9Name, en_sl7Letter, en_sl1In, en_sKeyword, en_sl7Within, en_sl7Calls, en_sOpsOk, en_sl13Op, en_sDecOk, en_sRexParse, en_sl3Pattern, en_sl3Part, en_sl3Piece, en_sl3Atom, en_sl3Now, en_sl3Set, en_sl3Deep, en_sl1Max, en_sSinkOk, en_sl26Nums, en_sPeerOk, en_sHardOk, en_sLastOf, en_sLogOk, en_sCmdOk, en_sl9Line, en_sMachOk, en_sStateOk, en_sValOk, en_sDecLooks, en_sDecFront, en_sl2Digit, en_sl11Less, en_sRpcOk, en_sl19List, en_sDiskOk, en_iLeader, en_iWorldOk, en_iProgOk, en_inamesOk, en_iisName, en_iin, en_ilettersAt, en_iisLetter, en_iKeyword, en_icalls, en_slices_Contains_string_string, en_slices_Index_string_string, en_slices_ContainsFunc_string_string, en_slices_IndexFunc_string_string, en_iProgOk_1, en_iOpsOk, en_slices_ContainsFunc_impl_Op_impl_Op, en_slices_IndexFunc_impl_Op_impl_Op, en_iOpsOk_1, en_iopRight, en_iopName, en_iDecOk, en_iisRex, en_iRexParse, en_irexReader_pattern, en_irexReader_part, en_irexReader_next, en_irexReader_piece, en_irexReader_atom, en_irexReader_take, en_irexReader_set, en_strings_IndexByte, en_irepeatOf, en_irexDeep, en_iSinkOk, en_iisIndex, en_iPeerOk, en_iHardOk, en_iLastOf, en_iisVote, en_iLogOk, en_iCmdOk, en_ilineOk, en_strings_Contains, en_iMachOk, en_iStateOk, en_slices_ContainsFunc_impl_Val_impl_Val, en_slices_IndexFunc_impl_Val_impl_Val, en_iStateOk_1, en_iValOk, en_iDecLooks, en_iDecFront, en_strings_TrimLeft, en_strings_trimLeftByte, en_idigitsAt, en_imillionths, en_strconv_Atoi, en_iright, en_strings_Trim, en_strings_trimRightByte, en_icellBefore, en_strings_Compare, en_slices_ContainsFunc_int_int, en_slices_IndexFunc_int_int, en_iMachOk_1, en_inumbersOk, en_slices_ContainsFunc_int_int_2, en_slices_IndexFunc_int_int_2, en_inumbersOk_1, en_iDiskOk, en_slices_ContainsFunc_impl_Rpc_impl_Rpc, en_slices_IndexFunc_impl_Rpc_impl_Rpc, en_iPeerOk_1, en_iRpcOk, en_ientriesOk, en_slices_ContainsFunc_impl_Entry_impl_Entry, en_slices_IndexFunc_impl_Entry_impl_Entry, en_ientriesOk_1, en_slices_ContainsFunc_impl_Rpc_impl_Rpc_2, en_slices_IndexFunc_impl_Rpc_impl_Rpc_2, en_iWorldOk_1, en_slices_ContainsFunc_impl_Cmd_impl_Cmd, en_slices_IndexFunc_impl_Cmd_impl_Cmd, en_iWorldOk_2, en_eqWorld, en_eqProg, en_eqStringS, en_eqOpS, en_eqOp, en_eqPeerS, en_eqPeer, en_eqHard, en_eqLog, en_eqEntryS, en_eqEntry, en_eqCmd, en_eqMach, en_eqState, en_eqValS, en_eqVal, en_eqCellS, en_eqCell, en_eqIntS, en_eqBoolS, en_eqDisk, en_eqByteS, en_eqRpcS, en_eqRpc, en_eqSink, en_eqCmdS, en_FnExactEven, en_sEven, en_sl28Even, en_iEven, en_FnExactJudgeLead, en_sJudgeLead, en_iJudgeLead]
noncomputable def tab (e : Nat) : Entry := tabOf tabL en_FnExactLeader e
def candL : List (FuncId × List Nat) := [(4, [0]), (5, [202]), (6, [206]), (7, [1]), (9, [27]), (11, [176]), (12, [53]), (13, [92]), (14, [203]), (15, [205]), (16, [207]), (17, [208]), (18, [2]), (19, [6]), (20, [23]), (21, [25]), (22, [19]), (23, [26]), (26, [28]), (27, [32]), (28, [49]), (29, [51]), (30, [45]), (31, [52]), (35, [177]), (36, [181]), (37, [198]), (38, [200]), (39, [194]), (40, [201]), (41, [54]), (42, [93]), (43, [58]), (44, [204]), (45, [97]), (46, [130]), (47, [3]), (48, [4]), (49, [7]), (50, [24]), (51, [12]), (52, [78]), (54, [29]), (55, [30]), (56, [33]), (57, [50]), (58, [38]), (60, [178]), (61, [179]), (62, [182]), (63, [199]), (64, [187]), (65, [55]), (66, [74]), (67, [75]), (68, [76]), (69, [89]), (70, [80]), (71, [94]), (72, [126]), (73, [128]), (74, [162, 170]), (75, [172]), (76, [165]), (77, [157]), (78, [173]), (79, [175]), (80, [133]), (81, [5]), (82, [8]), (83, [20]), (84, [13]), (85, [21]), (86, [10]), (88, [31]), (89, [34]), (90, [46]), (91, [39]), (92, [47]), (93, [36]), (95, [180]), (96, [183]), (97, [195]), (98, [188]), (99, [196]), (100, [185]), (101, [56]), (102, [60]), (103, [62]), (104, [77]), (105, [82]), (106, [91]), (107, [90]), (108, [81]), (109, [95]), (110, [104]), (111, [106]), (112, [102]), (113, [107]), (114, [127]), (115, [129]), (116, [136]), (117, [161]), (118, [164]), (119, [163, 171]), (120, [166]), (121, [154, 158]), (122, [160]), (123, [174]), (124, [134]), (125, [9]), (126, [14]), (127, [22]), (128, [11]), (129, [35]), (130, [40]), (131, [48]), (132, [37]), (137, [184]), (138, [189]), (139, [197]), (140, [186]), (141, [57]), (142, [59]), (143, [63]), (144, [79]), (145, [83]), (146, [96]), (147, [105]), (148, [103]), (149, [108]), (150, [110]), (151, [111]), (152, [131]), (153, [132]), (154, [137]), (155, [156]), (156, [167]), (157, [169]), (158, [155, 159]), (159, [135]), (160, [15]), (161, [17]), (162, [41]), (163, [43]), (169, [190]), (170, [192]), (171, [61]), (172, [64]), (173, [65]), (174, [84]), (175, [88]), (176, [98]), (177, [100]), (178, [109]), (179, [112]), (180, [113]), (181, [114]), (182, [101]), (183, [138]), (184, [140]), (185, [141]), (186, [152]), (187, [168]), (189, [16]), (190, [18]), (191, [42]), (192, [44]), (195, [191]), (196, [193]), (197, [66]), (198, [72]), (199, [85]), (200, [99]), (201, [115]), (202, [139]), (203, [142]), (204, [153]), (206, [67]), (207, [70]), (208, [73]), (209, [86]), (210, [116]), (211, [125]), (212, [143]), (213, [150]), (219, [68]), (220, [87]), (221, [117]), (222, [121]), (223, [144]), (224, [146]), (225, [147]), (226, [145]), (227, [151]), (236, [69]), (237, [118]), (238, [119]), (239, [148]), (240, [149]), (245, [71]), (246, [120]), (247, [124]), (253, [122]), (259, [123])]
def cands (f : FuncId) : List Nat := lookC f candL
noncomputable def LL_szStringS_0 (n : Nat) : Nat → List DV → Option (Sum (InterpA lp_szStringS_0.2.2) (InterpA en_szStringS.outC)) := loopF T (callM tab cands (D T tab cands n)) en_szStringS n 0 lp_szStringS_0
noncomputable def LL_szOpS_0 (n : Nat) : Nat → List DV → Option (Sum (InterpA lp_szOpS_0.2.2) (InterpA en_szOpS.outC)) := loopF T (callM tab cands (D T tab cands n)) en_szOpS n 0 lp_szOpS_0
noncomputable def LL_szPeerS_0 (n : Nat) : Nat → List DV → Option (Sum (InterpA lp_szPeerS_0.2.2) (InterpA en_szPeerS.outC)) := loopF T (callM tab cands (D T tab cands n)) en_szPeerS n 0 lp_szPeerS_0
noncomputable def LL_szEntryS_0 (n : Nat) : Nat → List DV → Option (Sum (InterpA lp_szEntryS_0.2.2) (InterpA en_szEntryS.outC)) := loopF T (callM tab cands (D T tab cands n)) en_szEntryS n 0 lp_szEntryS_0
noncomputable def LL_szValS_0 (n : Nat) : Nat → List DV → Option (Sum (InterpA lp_szValS_0.2.2) (InterpA en_szValS.outC)) := loopF T (callM tab cands (D T tab cands n)) en_szValS n 0 lp_szValS_0
noncomputable def LL_szCellS_0 (n : Nat) : Nat → List DV → Option (Sum (InterpA lp_szCellS_0.2.2) (InterpA en_szCellS.outC)) := loopF T (callM tab cands (D T tab cands n)) en_szCellS n 0 lp_szCellS_0
noncomputable def LL_szRpcS_0 (n : Nat) : Nat → List DV → Option (Sum (InterpA lp_szRpcS_0.2.2) (InterpA en_szRpcS.outC)) := loopF T (callM tab cands (D T tab cands n)) en_szRpcS n 0 lp_szRpcS_0
noncomputable def LL_szCmdS_0 (n : Nat) : Nat → List DV → Option (Sum (InterpA lp_szCmdS_0.2.2) (InterpA en_szCmdS.outC)) := loopF T (callM tab cands (D T tab cands n)) en_szCmdS n 0 lp_szCmdS_0
noncomputable def LL_toStringS_0 (n : Nat) : Nat → List DV → Option (Sum (InterpA lp_toStringS_0.2.2) (InterpA en_toStringS.outC)) := loopF T (callM tab cands (D T tab cands n)) en_toStringS n 0 lp_toStringS_0
noncomputable def LL_toOpS_0 (n : Nat) : Nat → List DV → Option (Sum (InterpA lp_toOpS_0.2.2) (InterpA en_toOpS.outC)) := loopF T (callM tab cands (D T tab cands n)) en_toOpS n 0 lp_toOpS_0
noncomputable def LL_toPeerS_0 (n : Nat) : Nat → List DV → Option (Sum (InterpA lp_toPeerS_0.2.2) (InterpA en_toPeerS.outC)) := loopF T (callM tab cands (D T tab cands n)) en_toPeerS n 0 lp_toPeerS_0
noncomputable def LL_toEntryS_0 (n : Nat) : Nat → List DV → Option (Sum (InterpA lp_toEntryS_0.2.2) (InterpA en_toEntryS.outC)) := loopF T (callM tab cands (D T tab cands n)) en_toEntryS n 0 lp_toEntryS_0
noncomputable def LL_toValS_0 (n : Nat) : Nat → List DV → Option (Sum (InterpA lp_toValS_0.2.2) (InterpA en_toValS.outC)) := loopF T (callM tab cands (D T tab cands n)) en_toValS n 0 lp_toValS_0
noncomputable def LL_toCellS_0 (n : Nat) : Nat → List DV → Option (Sum (InterpA lp_toCellS_0.2.2) (InterpA en_toCellS.outC)) := loopF T (callM tab cands (D T tab cands n)) en_toCellS n 0 lp_toCellS_0
noncomputable def LL_toIntS_0 (n : Nat) : Nat → List DV → Option (Sum (InterpA lp_toIntS_0.2.2) (InterpA en_toIntS.outC)) := loopF T (callM tab cands (D T tab cands n)) en_toIntS n 0 lp_toIntS_0
noncomputable def LL_toBoolS_0 (n : Nat) : Nat → List DV → Option (Sum (InterpA lp_toBoolS_0.2.2) (InterpA en_toBoolS.outC)) := loopF T (callM tab cands (D T tab cands n)) en_toBoolS n 0 lp_toBoolS_0
noncomputable def LL_toByteS_0 (n : Nat) : Nat → List DV → Option (Sum (InterpA lp_toByteS_0.2.2) (InterpA en_toByteS.outC)) := loopF T (callM tab cands (D T tab cands n)) en_toByteS n 0 lp_toByteS_0
noncomputable def LL_toRpcS_0 (n : Nat) : Nat → List DV → Option (Sum (InterpA lp_toRpcS_0.2.2) (InterpA en_toRpcS.outC)) := loopF T (callM tab cands (D T tab cands n)) en_toRpcS n 0 lp_toRpcS_0
noncomputable def LL_toCmdS_0 (n : Nat) : Nat → List DV → Option (Sum (InterpA lp_toCmdS_0.2.2) (InterpA en_toCmdS.outC)) := loopF T (callM tab cands (D T tab cands n)) en_toCmdS n 0 lp_toCmdS_0
noncomputable def LL_sWorldOk_0 (n : Nat) : Nat → List DV → Option (Sum (InterpA lp_sWorldOk_0.2.2) (InterpA en_sWorldOk.outC)) := loopF T (callM tab cands (D T tab cands n)) en_sWorldOk n 0 lp_sWorldOk_0
noncomputable def LL_sWorldOk_2 (n : Nat) : Nat → List DV → Option (Sum (InterpA lp_sWorldOk_2.2.2) (InterpA en_sWorldOk.outC)) := loopF T (callM tab cands (D T tab cands n)) en_sWorldOk n 2 lp_sWorldOk_2
noncomputable def LL_sWorldOk_4 (n : Nat) : Nat → List DV → Option (Sum (InterpA lp_sWorldOk_4.2.2) (InterpA en_sWorldOk.outC)) := loopF T (callM tab cands (D T tab cands n)) en_sWorldOk n 4 lp_sWorldOk_4
noncomputable def LL_sProgOk_0 (n : Nat) : Nat → List DV → Option (Sum (InterpA lp_sProgOk_0.2.2) (InterpA en_sProgOk.outC)) := loopF T (callM tab cands (D T tab cands n)) en_sProgOk n 0 lp_sProgOk_0
noncomputable def LL_sProgOk_2 (n : Nat) : Nat → List DV → Option (Sum (InterpA lp_sProgOk_2.2.2) (InterpA en_sProgOk.outC)) := loopF T (callM tab cands (D T tab cands n)) en_sProgOk n 2 lp_sProgOk_2
noncomputable def LL_sl9Name_0 (n : Nat) : Nat → List DV → Option (Sum (InterpA lp_sl9Name_0.2.2) (InterpA en_sl9Name.outC)) := loopF T (callM tab cands (D T tab cands n)) en_sl9Name n 0 lp_sl9Name_0
noncomputable def LL_sl7Within_0 (n : Nat) : Nat → List DV → Option (Sum (InterpA lp_sl7Within_0.2.2) (InterpA en_sl7Within.outC)) := loopF T (callM tab cands (D T tab cands n)) en_sl7Within n 0 lp_sl7Within_0
noncomputable def LL_sOpsOk_0 (n : Nat) : Nat → List DV → Option (Sum (InterpA lp_sOpsOk_0.2.2) (InterpA en_sOpsOk.outC)) := loopF T (callM tab cands (D T tab cands n)) en_sOpsOk n 0 lp_sOpsOk_0
noncomputable def LL_sl3Pattern_0 (n : Nat) : Nat → List DV → Option (Sum (InterpA lp_sl3Pattern_0.2.2) (InterpA en_sl3Pattern.outC)) := loopF T (callM tab cands (D T tab cands n)) en_sl3Pattern n 0 lp_sl3Pattern_0
noncomputable def LL_sl3Part_0 (n : Nat) : Nat → List DV → Option (Sum (InterpA lp_sl3Part_0.2.2) (InterpA en_sl3Part.outC)) := loopF T (callM tab cands (D T tab cands n)) en_sl3Part n 0 lp_sl3Part_0
noncomputable def LL_sl3Piece_0 (n : Nat) : Nat → List DV → Option (Sum (InterpA lp_sl3Piece_0.2.2) (InterpA en_sl3Piece.outC)) := loopF T (callM tab cands (D T tab cands n)) en_sl3Piece n 0 lp_sl3Piece_0
noncomputable def LL_sl3Set_2 (n : Nat) : Nat → List DV → Option (Sum (InterpA lp_sl3Set_2.2.2) (InterpA en_sl3Set.outC)) := loopF T (callM tab cands (D T tab cands n)) en_sl3Set n 2 lp_sl3Set_2
noncomputable def LL_sl3Set_0 (n : Nat) : Nat → List DV → Option (Sum (InterpA lp_sl3Set_0.2.2) (InterpA en_sl3Set.outC)) := loopF T (callM tab cands (D T tab cands n)) en_sl3Set n 0 lp_sl3Set_0
noncomputable def LL_sl3Set_4 (n : Nat) : Nat → List DV → Option (Sum (InterpA lp_sl3Set_4.2.2) (InterpA en_sl3Set.outC)) := loopF T (callM tab cands (D T tab cands n)) en_sl3Set n 4 lp_sl3Set_4
noncomputable def LL_sl3Deep_0 (n : Nat) : Nat → List DV → Option (Sum (InterpA lp_sl3Deep_0.2.2) (InterpA en_sl3Deep.outC)) := loopF T (callM tab cands (D T tab cands n)) en_sl3Deep n 0 lp_sl3Deep_0
noncomputable def LL_sl26Nums_0 (n : Nat) : Nat → List DV → Option (Sum (InterpA lp_sl26Nums_0.2.2) (InterpA en_sl26Nums.outC)) := loopF T (callM tab cands (D T tab cands n)) en_sl26Nums n 0 lp_sl26Nums_0
noncomputable def LL_sPeerOk_0 (n : Nat) : Nat → List DV → Option (Sum (InterpA lp_sPeerOk_0.2.2) (InterpA en_sPeerOk.outC)) := loopF T (callM tab cands (D T tab cands n)) en_sPeerOk n 0 lp_sPeerOk_0
noncomputable def LL_sPeerOk_2 (n : Nat) : Nat → List DV → Option (Sum (InterpA lp_sPeerOk_2.2.2) (InterpA en_sPeerOk.outC)) := loopF T (callM tab cands (D T tab cands n)) en_sPeerOk n 2 lp_sPeerOk_2
noncomputable def LL_sLogOk_0 (n : Nat) : Nat → List DV → Option (Sum (InterpA lp_sLogOk_0.2.2) (InterpA en_sLogOk.outC)) := loopF T (callM tab cands (D T tab cands n)) en_sLogOk n 0 lp_sLogOk_0
noncomputable def LL_sl9Line_0 (n : Nat) : Nat → List DV → Option (Sum (InterpA lp_sl9Line_0.2.2) (InterpA en_sl9Line.outC)) := loopF T (callM tab cands (D T tab cands n)) en_sl9Line n 0 lp_sl9Line_0
noncomputable def LL_sMachOk_0 (n : Nat) : Nat → List DV → Option (Sum (InterpA lp_sMachOk_0.2.2) (InterpA en_sMachOk.outC)) := loopF T (callM tab cands (D T tab cands n)) en_sMachOk n 0 lp_sMachOk_0
noncomputable def LL_sStateOk_0 (n : Nat) : Nat → List DV → Option (Sum (InterpA lp_sStateOk_0.2.2) (InterpA en_sStateOk.outC)) := loopF T (callM tab cands (D T tab cands n)) en_sStateOk n 0 lp_sStateOk_0
noncomputable def LL_sStateOk_2 (n : Nat) : Nat → List DV → Option (Sum (InterpA lp_sStateOk_2.2.2) (InterpA en_sStateOk.outC)) := loopF T (callM tab cands (D T tab cands n)) en_sStateOk n 2 lp_sStateOk_2
noncomputable def LL_sDecLooks_0 (n : Nat) : Nat → List DV → Option (Sum (InterpA lp_sDecLooks_0.2.2) (InterpA en_sDecLooks.outC)) := loopF T (callM tab cands (D T tab cands n)) en_sDecLooks n 0 lp_sDecLooks_0
noncomputable def LL_sDecFront_0 (n : Nat) : Nat → List DV → Option (Sum (InterpA lp_sDecFront_0.2.2) (InterpA en_sDecFront.outC)) := loopF T (callM tab cands (D T tab cands n)) en_sDecFront n 0 lp_sDecFront_0
noncomputable def LL_sDecFront_2 (n : Nat) : Nat → List DV → Option (Sum (InterpA lp_sDecFront_2.2.2) (InterpA en_sDecFront.outC)) := loopF T (callM tab cands (D T tab cands n)) en_sDecFront n 2 lp_sDecFront_2
noncomputable def LL_sDecFront_4 (n : Nat) : Nat → List DV → Option (Sum (InterpA lp_sDecFront_4.2.2) (InterpA en_sDecFront.outC)) := loopF T (callM tab cands (D T tab cands n)) en_sDecFront n 4 lp_sDecFront_4
noncomputable def LL_sl19List_0 (n : Nat) : Nat → List DV → Option (Sum (InterpA lp_sl19List_0.2.2) (InterpA en_sl19List.outC)) := loopF T (callM tab cands (D T tab cands n)) en_sl19List n 0 lp_sl19List_0
noncomputable def LL_iWorldOk_0 (n : Nat) : Nat → List DV → Option (Sum (InterpA lp_iWorldOk_0.2.2) (InterpA en_iWorldOk.outC)) := loopF T (callM tab cands (D T tab cands n)) en_iWorldOk n 0 lp_iWorldOk_0
noncomputable def LL_inamesOk_0 (n : Nat) : Nat → List DV → Option (Sum (InterpA lp_inamesOk_0.2.2) (InterpA en_inamesOk.outC)) := loopF T (callM tab cands (D T tab cands n)) en_inamesOk n 0 lp_inamesOk_0
noncomputable def LL_ilettersAt_0 (n : Nat) : Nat → List DV → Option (Sum (InterpA lp_ilettersAt_0.2.2) (InterpA en_ilettersAt.outC)) := loopF T (callM tab cands (D T tab cands n)) en_ilettersAt n 0 lp_ilettersAt_0
noncomputable def LL_slices_Index_string_string_0 (n : Nat) : Nat → List DV → Option (Sum (InterpA lp_slices_Index_string_string_0.2.2) (InterpA en_slices_Index_string_string.outC)) := loopF T (callM tab cands (D T tab cands n)) en_slices_Index_string_string n 0 lp_slices_Index_string_string_0
noncomputable def LL_slices_IndexFunc_string_string_0 (n : Nat) : Nat → List DV → Option (Sum (InterpA lp_slices_IndexFunc_string_string_0.2.2) (InterpA en_slices_IndexFunc_string_string.outC)) := loopF T (callM tab cands (D T tab cands n)) en_slices_IndexFunc_string_string n 0 lp_slices_IndexFunc_string_string_0
noncomputable def LL_slices_IndexFunc_impl_Op_impl_Op_0 (n : Nat) : Nat → List DV → Option (Sum (InterpA lp_slices_IndexFunc_impl_Op_impl_Op_0.2.2) (InterpA en_slices_IndexFunc_impl_Op_impl_Op.outC)) := loopF T (callM tab cands (D T tab cands n)) en_slices_IndexFunc_impl_Op_impl_Op n 0 lp_slices_IndexFunc_impl_Op_impl_Op_0
noncomputable def LL_irexReader_pattern_0 (n : Nat) : Nat → List DV → Option (Sum (InterpA lp_irexReader_pattern_0.2.2) (InterpA en_irexReader_pattern.outC)) := loopF T (callM tab cands (D T tab cands n)) en_irexReader_pattern n 0 lp_irexReader_pattern_0
noncomputable def LL_irexReader_part_0 (n : Nat) : Nat → List DV → Option (Sum (InterpA lp_irexReader_part_0.2.2) (InterpA en_irexReader_part.outC)) := loopF T (callM tab cands (D T tab cands n)) en_irexReader_part n 0 lp_irexReader_part_0
noncomputable def LL_irexReader_piece_0 (n : Nat) : Nat → List DV → Option (Sum (InterpA lp_irexReader_piece_0.2.2) (InterpA en_irexReader_piece.outC)) := loopF T (callM tab cands (D T tab cands n)) en_irexReader_piece n 0 lp_irexReader_piece_0
noncomputable def LL_irexReader_set_2 (n : Nat) : Nat → List DV → Option (Sum (InterpA lp_irexReader_set_2.2.2) (InterpA en_irexReader_set.outC)) := loopF T (callM tab cands (D T tab cands n)) en_irexReader_set n 2 lp_irexReader_set_2
noncomputable def LL_irexReader_set_0 (n : Nat) : Nat → List DV → Option (Sum (InterpA lp_irexReader_set_0.2.2) (InterpA en_irexReader_set.outC)) := loopF T (callM tab cands (D T tab cands n)) en_irexReader_set n 0 lp_irexReader_set_0
noncomputable def LL_irexReader_set_4 (n : Nat) : Nat → List DV → Option (Sum (InterpA lp_irexReader_set_4.2.2) (InterpA en_irexReader_set.outC)) := loopF T (callM tab cands (D T tab cands n)) en_irexReader_set n 4 lp_irexReader_set_4
noncomputable def LL_irexDeep_0 (n : Nat) : Nat → List DV → Option (Sum (InterpA lp_irexDeep_0.2.2) (InterpA en_irexDeep.outC)) := loopF T (callM tab cands (D T tab cands n)) en_irexDeep n 0 lp_irexDeep_0
noncomputable def LL_iLogOk_0 (n : Nat) : Nat → List DV → Option (Sum (InterpA lp_iLogOk_0.2.2) (InterpA en_iLogOk.outC)) := loopF T (callM tab cands (D T tab cands n)) en_iLogOk n 0 lp_iLogOk_0
noncomputable def LL_iStateOk_0 (n : Nat) : Nat → List DV → Option (Sum (InterpA lp_iStateOk_0.2.2) (InterpA en_iStateOk.outC)) := loopF T (callM tab cands (D T tab cands n)) en_iStateOk n 0 lp_iStateOk_0
noncomputable def LL_slices_IndexFunc_impl_Val_impl_Val_0 (n : Nat) : Nat → List DV → Option (Sum (InterpA lp_slices_IndexFunc_impl_Val_impl_Val_0.2.2) (InterpA en_slices_IndexFunc_impl_Val_impl_Val.outC)) := loopF T (callM tab cands (D T tab cands n)) en_slices_IndexFunc_impl_Val_impl_Val n 0 lp_slices_IndexFunc_impl_Val_impl_Val_0
noncomputable def LL_strings_trimLeftByte_0 (n : Nat) : Nat → List DV → Option (Sum (InterpA lp_strings_trimLeftByte_0.2.2) (InterpA en_strings_trimLeftByte.outC)) := loopF T (callM tab cands (D T tab cands n)) en_strings_trimLeftByte n 0 lp_strings_trimLeftByte_0
noncomputable def LL_idigitsAt_0 (n : Nat) : Nat → List DV → Option (Sum (InterpA lp_idigitsAt_0.2.2) (InterpA en_idigitsAt.outC)) := loopF T (callM tab cands (D T tab cands n)) en_idigitsAt n 0 lp_idigitsAt_0
noncomputable def LL_strings_trimRightByte_0 (n : Nat) : Nat → List DV → Option (Sum (InterpA lp_strings_trimRightByte_0.2.2) (InterpA en_strings_trimRightByte.outC)) := loopF T (callM tab cands (D T tab cands n)) en_strings_trimRightByte n 0 lp_strings_trimRightByte_0
noncomputable def LL_slices_IndexFunc_int_int_0 (n : Nat) : Nat → List DV → Option (Sum (InterpA lp_slices_IndexFunc_int_int_0.2.2) (InterpA en_slices_IndexFunc_int_int.outC)) := loopF T (callM tab cands (D T tab cands n)) en_slices_IndexFunc_int_int n 0 lp_slices_IndexFunc_int_int_0
noncomputable def LL_slices_IndexFunc_int_int_2_0 (n : Nat) : Nat → List DV → Option (Sum (InterpA lp_slices_IndexFunc_int_int_2_0.2.2) (InterpA en_slices_IndexFunc_int_int_2.outC)) := loopF T (callM tab cands (D T tab cands n)) en_slices_IndexFunc_int_int_2 n 0 lp_slices_IndexFunc_int_int_2_0
noncomputable def LL_slices_IndexFunc_impl_Rpc_impl_Rpc_0 (n : Nat) : Nat → List DV → Option (Sum (InterpA lp_slices_IndexFunc_impl_Rpc_impl_Rpc_0.2.2) (InterpA en_slices_IndexFunc_impl_Rpc_impl_Rpc.outC)) := loopF T (callM tab cands (D T tab cands n)) en_slices_IndexFunc_impl_Rpc_impl_Rpc n 0 lp_slices_IndexFunc_impl_Rpc_impl_Rpc_0
noncomputable def LL_slices_IndexFunc_impl_Entry_impl_Entry_0 (n : Nat) : Nat → List DV → Option (Sum (InterpA lp_slices_IndexFunc_impl_Entry_impl_Entry_0.2.2) (InterpA en_slices_IndexFunc_impl_Entry_impl_Entry.outC)) := loopF T (callM tab cands (D T tab cands n)) en_slices_IndexFunc_impl_Entry_impl_Entry n 0 lp_slices_IndexFunc_impl_Entry_impl_Entry_0
noncomputable def LL_slices_IndexFunc_impl_Rpc_impl_Rpc_2_0 (n : Nat) : Nat → List DV → Option (Sum (InterpA lp_slices_IndexFunc_impl_Rpc_impl_Rpc_2_0.2.2) (InterpA en_slices_IndexFunc_impl_Rpc_impl_Rpc_2.outC)) := loopF T (callM tab cands (D T tab cands n)) en_slices_IndexFunc_impl_Rpc_impl_Rpc_2 n 0 lp_slices_IndexFunc_impl_Rpc_impl_Rpc_2_0
noncomputable def LL_slices_IndexFunc_impl_Cmd_impl_Cmd_0 (n : Nat) : Nat → List DV → Option (Sum (InterpA lp_slices_IndexFunc_impl_Cmd_impl_Cmd_0.2.2) (InterpA en_slices_IndexFunc_impl_Cmd_impl_Cmd.outC)) := loopF T (callM tab cands (D T tab cands n)) en_slices_IndexFunc_impl_Cmd_impl_Cmd n 0 lp_slices_IndexFunc_impl_Cmd_impl_Cmd_0
noncomputable def LL_eqStringS_0 (n : Nat) : Nat → List DV → Option (Sum (InterpA lp_eqStringS_0.2.2) (InterpA en_eqStringS.outC)) := loopF T (callM tab cands (D T tab cands n)) en_eqStringS n 0 lp_eqStringS_0
noncomputable def LL_eqOpS_0 (n : Nat) : Nat → List DV → Option (Sum (InterpA lp_eqOpS_0.2.2) (InterpA en_eqOpS.outC)) := loopF T (callM tab cands (D T tab cands n)) en_eqOpS n 0 lp_eqOpS_0
noncomputable def LL_eqPeerS_0 (n : Nat) : Nat → List DV → Option (Sum (InterpA lp_eqPeerS_0.2.2) (InterpA en_eqPeerS.outC)) := loopF T (callM tab cands (D T tab cands n)) en_eqPeerS n 0 lp_eqPeerS_0
noncomputable def LL_eqEntryS_0 (n : Nat) : Nat → List DV → Option (Sum (InterpA lp_eqEntryS_0.2.2) (InterpA en_eqEntryS.outC)) := loopF T (callM tab cands (D T tab cands n)) en_eqEntryS n 0 lp_eqEntryS_0
noncomputable def LL_eqValS_0 (n : Nat) : Nat → List DV → Option (Sum (InterpA lp_eqValS_0.2.2) (InterpA en_eqValS.outC)) := loopF T (callM tab cands (D T tab cands n)) en_eqValS n 0 lp_eqValS_0
noncomputable def LL_eqCellS_0 (n : Nat) : Nat → List DV → Option (Sum (InterpA lp_eqCellS_0.2.2) (InterpA en_eqCellS.outC)) := loopF T (callM tab cands (D T tab cands n)) en_eqCellS n 0 lp_eqCellS_0
noncomputable def LL_eqIntS_0 (n : Nat) : Nat → List DV → Option (Sum (InterpA lp_eqIntS_0.2.2) (InterpA en_eqIntS.outC)) := loopF T (callM tab cands (D T tab cands n)) en_eqIntS n 0 lp_eqIntS_0
noncomputable def LL_eqBoolS_0 (n : Nat) : Nat → List DV → Option (Sum (InterpA lp_eqBoolS_0.2.2) (InterpA en_eqBoolS.outC)) := loopF T (callM tab cands (D T tab cands n)) en_eqBoolS n 0 lp_eqBoolS_0
noncomputable def LL_eqByteS_0 (n : Nat) : Nat → List DV → Option (Sum (InterpA lp_eqByteS_0.2.2) (InterpA en_eqByteS.outC)) := loopF T (callM tab cands (D T tab cands n)) en_eqByteS n 0 lp_eqByteS_0
noncomputable def LL_eqRpcS_0 (n : Nat) : Nat → List DV → Option (Sum (InterpA lp_eqRpcS_0.2.2) (InterpA en_eqRpcS.outC)) := loopF T (callM tab cands (D T tab cands n)) en_eqRpcS n 0 lp_eqRpcS_0
noncomputable def LL_eqCmdS_0 (n : Nat) : Nat → List DV → Option (Sum (InterpA lp_eqCmdS_0.2.2) (InterpA en_eqCmdS.outC)) := loopF T (callM tab cands (D T tab cands n)) en_eqCmdS n 0 lp_eqCmdS_0
noncomputable def LL_sl28Even_0 (n : Nat) : Nat → List DV → Option (Sum (InterpA lp_sl28Even_0.2.2) (InterpA en_sl28Even.outC)) := loopF T (callM tab cands (D T tab cands n)) en_sl28Even n 0 lp_sl28Even_0
noncomputable def LL_iEven_0 (n : Nat) : Nat → List DV → Option (Sum (InterpA lp_iEven_0.2.2) (InterpA en_iEven.outC)) := loopF T (callM tab cands (D T tab cands n)) en_iEven n 0 lp_iEven_0
abbrev i_szWorld : Nat := 1
abbrev i_szProg : Nat := 2
abbrev i_szStringS : Nat := 3
abbrev i_szOpS : Nat := 4
abbrev i_szOp : Nat := 5
abbrev i_szPeerS : Nat := 6
abbrev i_szPeer : Nat := 7
abbrev i_szHard : Nat := 8
abbrev i_szLog : Nat := 9
abbrev i_szEntryS : Nat := 10
abbrev i_szEntry : Nat := 11
abbrev i_szCmd : Nat := 12
abbrev i_szMach : Nat := 13
abbrev i_szState : Nat := 14
abbrev i_szValS : Nat := 15
abbrev i_szVal : Nat := 16
abbrev i_szCellS : Nat := 17
abbrev i_szCell : Nat := 18
abbrev i_szIntS : Nat := 19
abbrev i_szBoolS : Nat := 20
abbrev i_szDisk : Nat := 21
abbrev i_szByteS : Nat := 22
abbrev i_szRpcS : Nat := 23
abbrev i_szRpc : Nat := 24
abbrev i_szSink : Nat := 25
abbrev i_szCmdS : Nat := 26
abbrev i_toWorld : Nat := 27
abbrev i_toProg : Nat := 28
abbrev i_toStringS : Nat := 29
abbrev i_toOpS : Nat := 30
abbrev i_toOp : Nat := 31
abbrev i_toPeerS : Nat := 32
abbrev i_toPeer : Nat := 33
abbrev i_toHard : Nat := 34
abbrev i_toLog : Nat := 35
abbrev i_toEntryS : Nat := 36
abbrev i_toEntry : Nat := 37
abbrev i_toCmd : Nat := 38
abbrev i_toMach : Nat := 39
abbrev i_toState : Nat := 40
abbrev i_toValS : Nat := 41
abbrev i_toVal : Nat := 42
abbrev i_toCellS : Nat := 43
abbrev i_toCell : Nat := 44
abbrev i_toIntS : Nat := 45
abbrev i_toBoolS : Nat := 46
abbrev i_toDisk : Nat := 47
abbrev i_toByteS : Nat := 48
abbrev i_toRpcS : Nat := 49
abbrev i_toRpc : Nat := 50
abbrev i_toSink : Nat := 51
abbrev i_toCmdS : Nat := 52
abbrev i_sWorldOk : Nat := 54
abbrev i_sProgOk : Nat := 55
abbrev i_sl9Name : Nat := 56
abbrev i_sl7Letter : Nat := 57
abbrev i_sl1In : Nat := 58
abbrev i_sKeyword : Nat := 59
abbrev i_sl7Within : Nat := 60
abbrev i_sl7Calls : Nat := 61
abbrev i_sOpsOk : Nat := 62
abbrev i_sl13Op : Nat := 63
abbrev i_sDecOk : Nat := 64
abbrev i_sRexParse : Nat := 65
abbrev i_sl3Pattern : Nat := 66
abbrev i_sl3Part : Nat := 67
abbrev i_sl3Piece : Nat := 68
abbrev i_sl3Atom : Nat := 69
abbrev i_sl3Now : Nat := 70
abbrev i_sl3Set : Nat := 71
abbrev i_sl3Deep : Nat := 72
abbrev i_sl1Max : Nat := 73
abbrev i_sSinkOk : Nat := 74
abbrev i_sl26Nums : Nat := 75
abbrev i_sPeerOk : Nat := 76
abbrev i_sHardOk : Nat := 77
abbrev i_sLastOf : Nat := 78
abbrev i_sLogOk : Nat := 79
abbrev i_sCmdOk : Nat := 80
abbrev i_sl9Line : Nat := 81
abbrev i_sMachOk : Nat := 82
abbrev i_sStateOk : Nat := 83
abbrev i_sValOk : Nat := 84
abbrev i_sDecLooks : Nat := 85
abbrev i_sDecFront : Nat := 86
abbrev i_sl2Digit : Nat := 87
abbrev i_sl11Less : Nat := 88
abbrev i_sRpcOk : Nat := 89
abbrev i_sl19List : Nat := 90
abbrev i_sDiskOk : Nat := 91
abbrev i_iWorldOk : Nat := 93
abbrev i_iProgOk : Nat := 94
abbrev i_inamesOk : Nat := 95
abbrev i_iisName : Nat := 96
abbrev i_iin : Nat := 97
abbrev i_ilettersAt : Nat := 98
abbrev i_iisLetter : Nat := 99
abbrev i_iKeyword : Nat := 100
abbrev i_icalls : Nat := 101
abbrev i_slices_Contains_string_string : Nat := 102
abbrev i_slices_Index_string_string : Nat := 103
abbrev i_slices_ContainsFunc_string_string : Nat := 104
abbrev i_slices_IndexFunc_string_string : Nat := 105
abbrev i_iProgOk_1 : Nat := 106
abbrev i_iOpsOk : Nat := 107
abbrev i_slices_ContainsFunc_impl_Op_impl_Op : Nat := 108
abbrev i_slices_IndexFunc_impl_Op_impl_Op : Nat := 109
abbrev i_iOpsOk_1 : Nat := 110
abbrev i_iopRight : Nat := 111
abbrev i_iopName : Nat := 112
abbrev i_iDecOk : Nat := 113
abbrev i_iisRex : Nat := 114
abbrev i_iRexParse : Nat := 115
abbrev i_irexReader_pattern : Nat := 116
abbrev i_irexReader_part : Nat := 117
abbrev i_irexReader_next : Nat := 118
abbrev i_irexReader_piece : Nat := 119
abbrev i_irexReader_atom : Nat := 120
abbrev i_irexReader_take : Nat := 121
abbrev i_irexReader_set : Nat := 122
abbrev i_strings_IndexByte : Nat := 123
abbrev i_irepeatOf : Nat := 124
abbrev i_irexDeep : Nat := 125
abbrev i_iSinkOk : Nat := 126
abbrev i_iisIndex : Nat := 127
abbrev i_iPeerOk : Nat := 128
abbrev i_iHardOk : Nat := 129
abbrev i_iLastOf : Nat := 130
abbrev i_iisVote : Nat := 131
abbrev i_iLogOk : Nat := 132
abbrev i_iCmdOk : Nat := 133
abbrev i_ilineOk : Nat := 134
abbrev i_strings_Contains : Nat := 135
abbrev i_iMachOk : Nat := 136
abbrev i_iStateOk : Nat := 137
abbrev i_slices_ContainsFunc_impl_Val_impl_Val : Nat := 138
abbrev i_slices_IndexFunc_impl_Val_impl_Val : Nat := 139
abbrev i_iStateOk_1 : Nat := 140
abbrev i_iValOk : Nat := 141
abbrev i_iDecLooks : Nat := 142
abbrev i_iDecFront : Nat := 143
abbrev i_strings_TrimLeft : Nat := 144
abbrev i_strings_trimLeftByte : Nat := 145
abbrev i_idigitsAt : Nat := 146
abbrev i_imillionths : Nat := 147
abbrev i_strconv_Atoi : Nat := 148
abbrev i_iright : Nat := 149
abbrev i_strings_Trim : Nat := 150
abbrev i_strings_trimRightByte : Nat := 151
abbrev i_icellBefore : Nat := 152
abbrev i_strings_Compare : Nat := 153
abbrev i_slices_ContainsFunc_int_int : Nat := 154
abbrev i_slices_IndexFunc_int_int : Nat := 155
abbrev i_iMachOk_1 : Nat := 156
abbrev i_inumbersOk : Nat := 157
abbrev i_slices_ContainsFunc_int_int_2 : Nat := 158
abbrev i_slices_IndexFunc_int_int_2 : Nat := 159
abbrev i_inumbersOk_1 : Nat := 160
abbrev i_iDiskOk : Nat := 161
abbrev i_slices_ContainsFunc_impl_Rpc_impl_Rpc : Nat := 162
abbrev i_slices_IndexFunc_impl_Rpc_impl_Rpc : Nat := 163
abbrev i_iPeerOk_1 : Nat := 164
abbrev i_iRpcOk : Nat := 165
abbrev i_ientriesOk : Nat := 166
abbrev i_slices_ContainsFunc_impl_Entry_impl_Entry : Nat := 167
abbrev i_slices_IndexFunc_impl_Entry_impl_Entry : Nat := 168
abbrev i_ientriesOk_1 : Nat := 169
abbrev i_slices_ContainsFunc_impl_Rpc_impl_Rpc_2 : Nat := 170
abbrev i_slices_IndexFunc_impl_Rpc_impl_Rpc_2 : Nat := 171
abbrev i_iWorldOk_1 : Nat := 172
abbrev i_slices_ContainsFunc_impl_Cmd_impl_Cmd : Nat := 173
abbrev i_slices_IndexFunc_impl_Cmd_impl_Cmd : Nat := 174
abbrev i_iWorldOk_2 : Nat := 175
abbrev i_eqWorld : Nat := 176
abbrev i_eqProg : Nat := 177
abbrev i_eqStringS : Nat := 178
abbrev i_eqOpS : Nat := 179
abbrev i_eqOp : Nat := 180
abbrev i_eqPeerS : Nat := 181
abbrev i_eqPeer : Nat := 182
abbrev i_eqHard : Nat := 183
abbrev i_eqLog : Nat := 184
abbrev i_eqEntryS : Nat := 185
abbrev i_eqEntry : Nat := 186
abbrev i_eqCmd : Nat := 187
abbrev i_eqMach : Nat := 188
abbrev i_eqState : Nat := 189
abbrev i_eqValS : Nat := 190
abbrev i_eqVal : Nat := 191
abbrev i_eqCellS : Nat := 192
abbrev i_eqCell : Nat := 193
abbrev i_eqIntS : Nat := 194
abbrev i_eqBoolS : Nat := 195
abbrev i_eqDisk : Nat := 196
abbrev i_eqByteS : Nat := 197
abbrev i_eqRpcS : Nat := 198
abbrev i_eqRpc : Nat := 199
abbrev i_eqSink : Nat := 200
abbrev i_eqCmdS : Nat := 201
abbrev i_FnExactEven : Nat := 202
abbrev i_sEven : Nat := 203
abbrev i_sl28Even : Nat := 204
abbrev i_iEven : Nat := 205
theorem en_FnExactLeader_ok : EntOk Tryz.prog en_FnExactLeader := ⟨by kernel_rfl, by kernel_rfl, by kernel_rfl, by kernel_rfl, by kernel_rfl⟩
theorem en_szWorld_ok : EntOk Tryz.prog en_szWorld := ⟨by kernel_rfl, by kernel_rfl, by kernel_rfl, by kernel_rfl, by kernel_rfl⟩
theorem en_szProg_ok : EntOk Tryz.prog en_szProg := ⟨by kernel_rfl, by kernel_rfl, by kernel_rfl, by kernel_rfl, by kernel_rfl⟩
theorem en_szStringS_ok : EntOk Tryz.prog en_szStringS := ⟨by kernel_rfl, by kernel_rfl, by kernel_rfl, by kernel_rfl, by kernel_rfl⟩
theorem en_szOpS_ok : EntOk Tryz.prog en_szOpS := ⟨by kernel_rfl, by kernel_rfl, by kernel_rfl, by kernel_rfl, by kernel_rfl⟩
theorem en_szOp_ok : EntOk Tryz.prog en_szOp := ⟨by kernel_rfl, by kernel_rfl, by kernel_rfl, by kernel_rfl, by kernel_rfl⟩
theorem en_szPeerS_ok : EntOk Tryz.prog en_szPeerS := ⟨by kernel_rfl, by kernel_rfl, by kernel_rfl, by kernel_rfl, by kernel_rfl⟩
theorem en_szPeer_ok : EntOk Tryz.prog en_szPeer := ⟨by kernel_rfl, by kernel_rfl, by kernel_rfl, by kernel_rfl, by kernel_rfl⟩
theorem en_szHard_ok : EntOk Tryz.prog en_szHard := ⟨by kernel_rfl, by kernel_rfl, by kernel_rfl, by kernel_rfl, by kernel_rfl⟩
theorem en_szLog_ok : EntOk Tryz.prog en_szLog := ⟨by kernel_rfl, by kernel_rfl, by kernel_rfl, by kernel_rfl, by kernel_rfl⟩
theorem en_szEntryS_ok : EntOk Tryz.prog en_szEntryS := ⟨by kernel_rfl, by kernel_rfl, by kernel_rfl, by kernel_rfl, by kernel_rfl⟩
theorem en_szEntry_ok : EntOk Tryz.prog en_szEntry := ⟨by kernel_rfl, by kernel_rfl, by kernel_rfl, by kernel_rfl, by kernel_rfl⟩
theorem en_szCmd_ok : EntOk Tryz.prog en_szCmd := ⟨by kernel_rfl, by kernel_rfl, by kernel_rfl, by kernel_rfl, by kernel_rfl⟩
theorem en_szMach_ok : EntOk Tryz.prog en_szMach := ⟨by kernel_rfl, by kernel_rfl, by kernel_rfl, by kernel_rfl, by kernel_rfl⟩
theorem en_szState_ok : EntOk Tryz.prog en_szState := ⟨by kernel_rfl, by kernel_rfl, by kernel_rfl, by kernel_rfl, by kernel_rfl⟩
theorem en_szValS_ok : EntOk Tryz.prog en_szValS := ⟨by kernel_rfl, by kernel_rfl, by kernel_rfl, by kernel_rfl, by kernel_rfl⟩
theorem en_szVal_ok : EntOk Tryz.prog en_szVal := ⟨by kernel_rfl, by kernel_rfl, by kernel_rfl, by kernel_rfl, by kernel_rfl⟩
theorem en_szCellS_ok : EntOk Tryz.prog en_szCellS := ⟨by kernel_rfl, by kernel_rfl, by kernel_rfl, by kernel_rfl, by kernel_rfl⟩
theorem en_szCell_ok : EntOk Tryz.prog en_szCell := ⟨by kernel_rfl, by kernel_rfl, by kernel_rfl, by kernel_rfl, by kernel_rfl⟩
theorem en_szIntS_ok : EntOk Tryz.prog en_szIntS := ⟨by kernel_rfl, by kernel_rfl, by kernel_rfl, by kernel_rfl, by kernel_rfl⟩
theorem en_szBoolS_ok : EntOk Tryz.prog en_szBoolS := ⟨by kernel_rfl, by kernel_rfl, by kernel_rfl, by kernel_rfl, by kernel_rfl⟩
theorem en_szDisk_ok : EntOk Tryz.prog en_szDisk := ⟨by kernel_rfl, by kernel_rfl, by kernel_rfl, by kernel_rfl, by kernel_rfl⟩
theorem en_szByteS_ok : EntOk Tryz.prog en_szByteS := ⟨by kernel_rfl, by kernel_rfl, by kernel_rfl, by kernel_rfl, by kernel_rfl⟩
theorem en_szRpcS_ok : EntOk Tryz.prog en_szRpcS := ⟨by kernel_rfl, by kernel_rfl, by kernel_rfl, by kernel_rfl, by kernel_rfl⟩
theorem en_szRpc_ok : EntOk Tryz.prog en_szRpc := ⟨by kernel_rfl, by kernel_rfl, by kernel_rfl, by kernel_rfl, by kernel_rfl⟩
theorem en_szSink_ok : EntOk Tryz.prog en_szSink := ⟨by kernel_rfl, by kernel_rfl, by kernel_rfl, by kernel_rfl, by kernel_rfl⟩
theorem en_szCmdS_ok : EntOk Tryz.prog en_szCmdS := ⟨by kernel_rfl, by kernel_rfl, by kernel_rfl, by kernel_rfl, by kernel_rfl⟩
theorem en_toWorld_ok : EntOk Tryz.prog en_toWorld := ⟨by kernel_rfl, by kernel_rfl, by kernel_rfl, by kernel_rfl, by kernel_rfl⟩
theorem en_toProg_ok : EntOk Tryz.prog en_toProg := ⟨by kernel_rfl, by kernel_rfl, by kernel_rfl, by kernel_rfl, by kernel_rfl⟩
theorem en_toStringS_ok : EntOk Tryz.prog en_toStringS := ⟨by kernel_rfl, by kernel_rfl, by kernel_rfl, by kernel_rfl, by kernel_rfl⟩
theorem en_toOpS_ok : EntOk Tryz.prog en_toOpS := ⟨by kernel_rfl, by kernel_rfl, by kernel_rfl, by kernel_rfl, by kernel_rfl⟩
theorem en_toOp_ok : EntOk Tryz.prog en_toOp := ⟨by kernel_rfl, by kernel_rfl, by kernel_rfl, by kernel_rfl, by kernel_rfl⟩
theorem en_toPeerS_ok : EntOk Tryz.prog en_toPeerS := ⟨by kernel_rfl, by kernel_rfl, by kernel_rfl, by kernel_rfl, by kernel_rfl⟩
theorem en_toPeer_ok : EntOk Tryz.prog en_toPeer := ⟨by kernel_rfl, by kernel_rfl, by kernel_rfl, by kernel_rfl, by kernel_rfl⟩
theorem en_toHard_ok : EntOk Tryz.prog en_toHard := ⟨by kernel_rfl, by kernel_rfl, by kernel_rfl, by kernel_rfl, by kernel_rfl⟩
theorem en_toLog_ok : EntOk Tryz.prog en_toLog := ⟨by kernel_rfl, by kernel_rfl, by kernel_rfl, by kernel_rfl, by kernel_rfl⟩
theorem en_toEntryS_ok : EntOk Tryz.prog en_toEntryS := ⟨by kernel_rfl, by kernel_rfl, by kernel_rfl, by kernel_rfl, by kernel_rfl⟩
theorem en_toEntry_ok : EntOk Tryz.prog en_toEntry := ⟨by kernel_rfl, by kernel_rfl, by kernel_rfl, by kernel_rfl, by kernel_rfl⟩
theorem en_toCmd_ok : EntOk Tryz.prog en_toCmd := ⟨by kernel_rfl, by kernel_rfl, by kernel_rfl, by kernel_rfl, by kernel_rfl⟩
theorem en_toMach_ok : EntOk Tryz.prog en_toMach := ⟨by kernel_rfl, by kernel_rfl, by kernel_rfl, by kernel_rfl, by kernel_rfl⟩
theorem en_toState_ok : EntOk Tryz.prog en_toState := ⟨by kernel_rfl, by kernel_rfl, by kernel_rfl, by kernel_rfl, by kernel_rfl⟩
theorem en_toValS_ok : EntOk Tryz.prog en_toValS := ⟨by kernel_rfl, by kernel_rfl, by kernel_rfl, by kernel_rfl, by kernel_rfl⟩
theorem en_toVal_ok : EntOk Tryz.prog en_toVal := ⟨by kernel_rfl, by kernel_rfl, by kernel_rfl, by kernel_rfl, by kernel_rfl⟩
theorem en_toCellS_ok : EntOk Tryz.prog en_toCellS := ⟨by kernel_rfl, by kernel_rfl, by kernel_rfl, by kernel_rfl, by kernel_rfl⟩
theorem en_toCell_ok : EntOk Tryz.prog en_toCell := ⟨by kernel_rfl, by kernel_rfl, by kernel_rfl, by kernel_rfl, by kernel_rfl⟩
theorem en_toIntS_ok : EntOk Tryz.prog en_toIntS := ⟨by kernel_rfl, by kernel_rfl, by kernel_rfl, by kernel_rfl, by kernel_rfl⟩
theorem en_toBoolS_ok : EntOk Tryz.prog en_toBoolS := ⟨by kernel_rfl, by kernel_rfl, by kernel_rfl, by kernel_rfl, by kernel_rfl⟩
theorem en_toDisk_ok : EntOk Tryz.prog en_toDisk := ⟨by kernel_rfl, by kernel_rfl, by kernel_rfl, by kernel_rfl, by kernel_rfl⟩
theorem en_toByteS_ok : EntOk Tryz.prog en_toByteS := ⟨by kernel_rfl, by kernel_rfl, by kernel_rfl, by kernel_rfl, by kernel_rfl⟩
theorem en_toRpcS_ok : EntOk Tryz.prog en_toRpcS := ⟨by kernel_rfl, by kernel_rfl, by kernel_rfl, by kernel_rfl, by kernel_rfl⟩
theorem en_toRpc_ok : EntOk Tryz.prog en_toRpc := ⟨by kernel_rfl, by kernel_rfl, by kernel_rfl, by kernel_rfl, by kernel_rfl⟩
theorem en_toSink_ok : EntOk Tryz.prog en_toSink := ⟨by kernel_rfl, by kernel_rfl, by kernel_rfl, by kernel_rfl, by kernel_rfl⟩
theorem en_toCmdS_ok : EntOk Tryz.prog en_toCmdS := ⟨by kernel_rfl, by kernel_rfl, by kernel_rfl, by kernel_rfl, by kernel_rfl⟩
theorem en_sLeader_ok : EntOk Tryz.prog en_sLeader := ⟨by kernel_rfl, by kernel_rfl, by kernel_rfl, by kernel_rfl, by kernel_rfl⟩
theorem en_sWorldOk_ok : EntOk Tryz.prog en_sWorldOk := ⟨by kernel_rfl, by kernel_rfl, by kernel_rfl, by kernel_rfl, by kernel_rfl⟩
theorem en_sProgOk_ok : EntOk Tryz.prog en_sProgOk := ⟨by kernel_rfl, by kernel_rfl, by kernel_rfl, by kernel_rfl, by kernel_rfl⟩
theorem en_sl9Name_ok : EntOk Tryz.prog en_sl9Name := ⟨by kernel_rfl, by kernel_rfl, by kernel_rfl, by kernel_rfl, by kernel_rfl⟩
theorem en_sl7Letter_ok : EntOk Tryz.prog en_sl7Letter := ⟨by kernel_rfl, by kernel_rfl, by kernel_rfl, by kernel_rfl, by kernel_rfl⟩
theorem en_sl1In_ok : EntOk Tryz.prog en_sl1In := ⟨by kernel_rfl, by kernel_rfl, by kernel_rfl, by kernel_rfl, by kernel_rfl⟩
theorem en_sKeyword_ok : EntOk Tryz.prog en_sKeyword := ⟨by kernel_rfl, by kernel_rfl, by kernel_rfl, by kernel_rfl, by kernel_rfl⟩
theorem en_sl7Within_ok : EntOk Tryz.prog en_sl7Within := ⟨by kernel_rfl, by kernel_rfl, by kernel_rfl, by kernel_rfl, by kernel_rfl⟩
theorem en_sl7Calls_ok : EntOk Tryz.prog en_sl7Calls := ⟨by kernel_rfl, by kernel_rfl, by kernel_rfl, by kernel_rfl, by kernel_rfl⟩
theorem en_sOpsOk_ok : EntOk Tryz.prog en_sOpsOk := ⟨by kernel_rfl, by kernel_rfl, by kernel_rfl, by kernel_rfl, by kernel_rfl⟩
theorem en_sl13Op_ok : EntOk Tryz.prog en_sl13Op := ⟨by kernel_rfl, by kernel_rfl, by kernel_rfl, by kernel_rfl, by kernel_rfl⟩
theorem en_sDecOk_ok : EntOk Tryz.prog en_sDecOk := ⟨by kernel_rfl, by kernel_rfl, by kernel_rfl, by kernel_rfl, by kernel_rfl⟩
theorem en_sRexParse_ok : EntOk Tryz.prog en_sRexParse := ⟨by kernel_rfl, by kernel_rfl, by kernel_rfl, by kernel_rfl, by kernel_rfl⟩
theorem en_sl3Pattern_ok : EntOk Tryz.prog en_sl3Pattern := ⟨by kernel_rfl, by kernel_rfl, by kernel_rfl, by kernel_rfl, by kernel_rfl⟩
theorem en_sl3Part_ok : EntOk Tryz.prog en_sl3Part := ⟨by kernel_rfl, by kernel_rfl, by kernel_rfl, by kernel_rfl, by kernel_rfl⟩
theorem en_sl3Piece_ok : EntOk Tryz.prog en_sl3Piece := ⟨by kernel_rfl, by kernel_rfl, by kernel_rfl, by kernel_rfl, by kernel_rfl⟩
theorem en_sl3Atom_ok : EntOk Tryz.prog en_sl3Atom := ⟨by kernel_rfl, by kernel_rfl, by kernel_rfl, by kernel_rfl, by kernel_rfl⟩
theorem en_sl3Now_ok : EntOk Tryz.prog en_sl3Now := ⟨by kernel_rfl, by kernel_rfl, by kernel_rfl, by kernel_rfl, by kernel_rfl⟩
theorem en_sl3Set_ok : EntOk Tryz.prog en_sl3Set := ⟨by kernel_rfl, by kernel_rfl, by kernel_rfl, by kernel_rfl, by kernel_rfl⟩
theorem en_sl3Deep_ok : EntOk Tryz.prog en_sl3Deep := ⟨by kernel_rfl, by kernel_rfl, by kernel_rfl, by kernel_rfl, by kernel_rfl⟩
theorem en_sl1Max_ok : EntOk Tryz.prog en_sl1Max := ⟨by kernel_rfl, by kernel_rfl, by kernel_rfl, by kernel_rfl, by kernel_rfl⟩
theorem en_sSinkOk_ok : EntOk Tryz.prog en_sSinkOk := ⟨by kernel_rfl, by kernel_rfl, by kernel_rfl, by kernel_rfl, by kernel_rfl⟩
theorem en_sl26Nums_ok : EntOk Tryz.prog en_sl26Nums := ⟨by kernel_rfl, by kernel_rfl, by kernel_rfl, by kernel_rfl, by kernel_rfl⟩
theorem en_sPeerOk_ok : EntOk Tryz.prog en_sPeerOk := ⟨by kernel_rfl, by kernel_rfl, by kernel_rfl, by kernel_rfl, by kernel_rfl⟩
theorem en_sHardOk_ok : EntOk Tryz.prog en_sHardOk := ⟨by kernel_rfl, by kernel_rfl, by kernel_rfl, by kernel_rfl, by kernel_rfl⟩
theorem en_sLastOf_ok : EntOk Tryz.prog en_sLastOf := ⟨by kernel_rfl, by kernel_rfl, by kernel_rfl, by kernel_rfl, by kernel_rfl⟩
theorem en_sLogOk_ok : EntOk Tryz.prog en_sLogOk := ⟨by kernel_rfl, by kernel_rfl, by kernel_rfl, by kernel_rfl, by kernel_rfl⟩
theorem en_sCmdOk_ok : EntOk Tryz.prog en_sCmdOk := ⟨by kernel_rfl, by kernel_rfl, by kernel_rfl, by kernel_rfl, by kernel_rfl⟩
theorem en_sl9Line_ok : EntOk Tryz.prog en_sl9Line := ⟨by kernel_rfl, by kernel_rfl, by kernel_rfl, by kernel_rfl, by kernel_rfl⟩
theorem en_sMachOk_ok : EntOk Tryz.prog en_sMachOk := ⟨by kernel_rfl, by kernel_rfl, by kernel_rfl, by kernel_rfl, by kernel_rfl⟩
theorem en_sStateOk_ok : EntOk Tryz.prog en_sStateOk := ⟨by kernel_rfl, by kernel_rfl, by kernel_rfl, by kernel_rfl, by kernel_rfl⟩
theorem en_sValOk_ok : EntOk Tryz.prog en_sValOk := ⟨by kernel_rfl, by kernel_rfl, by kernel_rfl, by kernel_rfl, by kernel_rfl⟩
theorem en_sDecLooks_ok : EntOk Tryz.prog en_sDecLooks := ⟨by kernel_rfl, by kernel_rfl, by kernel_rfl, by kernel_rfl, by kernel_rfl⟩
theorem en_sDecFront_ok : EntOk Tryz.prog en_sDecFront := ⟨by kernel_rfl, by kernel_rfl, by kernel_rfl, by kernel_rfl, by kernel_rfl⟩
theorem en_sl2Digit_ok : EntOk Tryz.prog en_sl2Digit := ⟨by kernel_rfl, by kernel_rfl, by kernel_rfl, by kernel_rfl, by kernel_rfl⟩
theorem en_sl11Less_ok : EntOk Tryz.prog en_sl11Less := ⟨by kernel_rfl, by kernel_rfl, by kernel_rfl, by kernel_rfl, by kernel_rfl⟩
theorem en_sRpcOk_ok : EntOk Tryz.prog en_sRpcOk := ⟨by kernel_rfl, by kernel_rfl, by kernel_rfl, by kernel_rfl, by kernel_rfl⟩
theorem en_sl19List_ok : EntOk Tryz.prog en_sl19List := ⟨by kernel_rfl, by kernel_rfl, by kernel_rfl, by kernel_rfl, by kernel_rfl⟩
theorem en_sDiskOk_ok : EntOk Tryz.prog en_sDiskOk := ⟨by kernel_rfl, by kernel_rfl, by kernel_rfl, by kernel_rfl, by kernel_rfl⟩
theorem en_iLeader_ok : EntOk Tryz.prog en_iLeader := ⟨by kernel_rfl, by kernel_rfl, by kernel_rfl, by kernel_rfl, by kernel_rfl⟩
theorem en_iWorldOk_ok : EntOk Tryz.prog en_iWorldOk := ⟨by kernel_rfl, by kernel_rfl, by kernel_rfl, by kernel_rfl, by kernel_rfl⟩
theorem en_iProgOk_ok : EntOk Tryz.prog en_iProgOk := ⟨by kernel_rfl, by kernel_rfl, by kernel_rfl, by kernel_rfl, by kernel_rfl⟩
theorem en_inamesOk_ok : EntOk Tryz.prog en_inamesOk := ⟨by kernel_rfl, by kernel_rfl, by kernel_rfl, by kernel_rfl, by kernel_rfl⟩
theorem en_iisName_ok : EntOk Tryz.prog en_iisName := ⟨by kernel_rfl, by kernel_rfl, by kernel_rfl, by kernel_rfl, by kernel_rfl⟩
theorem en_iin_ok : EntOk Tryz.prog en_iin := ⟨by kernel_rfl, by kernel_rfl, by kernel_rfl, by kernel_rfl, by kernel_rfl⟩
theorem en_ilettersAt_ok : EntOk Tryz.prog en_ilettersAt := ⟨by kernel_rfl, by kernel_rfl, by kernel_rfl, by kernel_rfl, by kernel_rfl⟩
theorem en_iisLetter_ok : EntOk Tryz.prog en_iisLetter := ⟨by kernel_rfl, by kernel_rfl, by kernel_rfl, by kernel_rfl, by kernel_rfl⟩
theorem en_iKeyword_ok : EntOk Tryz.prog en_iKeyword := ⟨by kernel_rfl, by kernel_rfl, by kernel_rfl, by kernel_rfl, by kernel_rfl⟩
theorem en_icalls_ok : EntOk Tryz.prog en_icalls := ⟨by kernel_rfl, by kernel_rfl, by kernel_rfl, by kernel_rfl, by kernel_rfl⟩
theorem en_slices_Contains_string_string_ok : EntOk Tryz.prog en_slices_Contains_string_string := ⟨by kernel_rfl, by kernel_rfl, by kernel_rfl, by kernel_rfl, by kernel_rfl⟩
theorem en_slices_Index_string_string_ok : EntOk Tryz.prog en_slices_Index_string_string := ⟨by kernel_rfl, by kernel_rfl, by kernel_rfl, by kernel_rfl, by kernel_rfl⟩
theorem en_slices_ContainsFunc_string_string_ok : EntOk Tryz.prog en_slices_ContainsFunc_string_string := ⟨by kernel_rfl, by kernel_rfl, by kernel_rfl, by kernel_rfl, by kernel_rfl⟩
theorem en_slices_IndexFunc_string_string_ok : EntOk Tryz.prog en_slices_IndexFunc_string_string := ⟨by kernel_rfl, by kernel_rfl, by kernel_rfl, by kernel_rfl, by kernel_rfl⟩
theorem en_iProgOk_1_ok : EntOk Tryz.prog en_iProgOk_1 := ⟨by kernel_rfl, by kernel_rfl, by kernel_rfl, by kernel_rfl, by kernel_rfl⟩
theorem en_iOpsOk_ok : EntOk Tryz.prog en_iOpsOk := ⟨by kernel_rfl, by kernel_rfl, by kernel_rfl, by kernel_rfl, by kernel_rfl⟩
theorem en_slices_ContainsFunc_impl_Op_impl_Op_ok : EntOk Tryz.prog en_slices_ContainsFunc_impl_Op_impl_Op := ⟨by kernel_rfl, by kernel_rfl, by kernel_rfl, by kernel_rfl, by kernel_rfl⟩
theorem en_slices_IndexFunc_impl_Op_impl_Op_ok : EntOk Tryz.prog en_slices_IndexFunc_impl_Op_impl_Op := ⟨by kernel_rfl, by kernel_rfl, by kernel_rfl, by kernel_rfl, by kernel_rfl⟩
theorem en_iOpsOk_1_ok : EntOk Tryz.prog en_iOpsOk_1 := ⟨by kernel_rfl, by kernel_rfl, by kernel_rfl, by kernel_rfl, by kernel_rfl⟩
theorem en_iopRight_ok : EntOk Tryz.prog en_iopRight := ⟨by kernel_rfl, by kernel_rfl, by kernel_rfl, by kernel_rfl, by kernel_rfl⟩
theorem en_iopName_ok : EntOk Tryz.prog en_iopName := ⟨by kernel_rfl, by kernel_rfl, by kernel_rfl, by kernel_rfl, by kernel_rfl⟩
theorem en_iDecOk_ok : EntOk Tryz.prog en_iDecOk := ⟨by kernel_rfl, by kernel_rfl, by kernel_rfl, by kernel_rfl, by kernel_rfl⟩
theorem en_iisRex_ok : EntOk Tryz.prog en_iisRex := ⟨by kernel_rfl, by kernel_rfl, by kernel_rfl, by kernel_rfl, by kernel_rfl⟩
theorem en_iRexParse_ok : EntOk Tryz.prog en_iRexParse := ⟨by kernel_rfl, by kernel_rfl, by kernel_rfl, by kernel_rfl, by kernel_rfl⟩
theorem en_irexReader_pattern_ok : EntOk Tryz.prog en_irexReader_pattern := ⟨by kernel_rfl, by kernel_rfl, by kernel_rfl, by kernel_rfl, by kernel_rfl⟩
theorem en_irexReader_part_ok : EntOk Tryz.prog en_irexReader_part := ⟨by kernel_rfl, by kernel_rfl, by kernel_rfl, by kernel_rfl, by kernel_rfl⟩
theorem en_irexReader_next_ok : EntOk Tryz.prog en_irexReader_next := ⟨by kernel_rfl, by kernel_rfl, by kernel_rfl, by kernel_rfl, by kernel_rfl⟩
theorem en_irexReader_piece_ok : EntOk Tryz.prog en_irexReader_piece := ⟨by kernel_rfl, by kernel_rfl, by kernel_rfl, by kernel_rfl, by kernel_rfl⟩
theorem en_irexReader_atom_ok : EntOk Tryz.prog en_irexReader_atom := ⟨by kernel_rfl, by kernel_rfl, by kernel_rfl, by kernel_rfl, by kernel_rfl⟩
theorem en_irexReader_take_ok : EntOk Tryz.prog en_irexReader_take := ⟨by kernel_rfl, by kernel_rfl, by kernel_rfl, by kernel_rfl, by kernel_rfl⟩
theorem en_irexReader_set_ok : EntOk Tryz.prog en_irexReader_set := ⟨by kernel_rfl, by kernel_rfl, by kernel_rfl, by kernel_rfl, by kernel_rfl⟩
theorem en_strings_IndexByte_ok : EntOk Tryz.prog en_strings_IndexByte := ⟨by kernel_rfl, by kernel_rfl, by kernel_rfl, by kernel_rfl, by kernel_rfl⟩
theorem en_irepeatOf_ok : EntOk Tryz.prog en_irepeatOf := ⟨by kernel_rfl, by kernel_rfl, by kernel_rfl, by kernel_rfl, by kernel_rfl⟩
theorem en_irexDeep_ok : EntOk Tryz.prog en_irexDeep := ⟨by kernel_rfl, by kernel_rfl, by kernel_rfl, by kernel_rfl, by kernel_rfl⟩
theorem en_iSinkOk_ok : EntOk Tryz.prog en_iSinkOk := ⟨by kernel_rfl, by kernel_rfl, by kernel_rfl, by kernel_rfl, by kernel_rfl⟩
theorem en_iisIndex_ok : EntOk Tryz.prog en_iisIndex := ⟨by kernel_rfl, by kernel_rfl, by kernel_rfl, by kernel_rfl, by kernel_rfl⟩
theorem en_iPeerOk_ok : EntOk Tryz.prog en_iPeerOk := ⟨by kernel_rfl, by kernel_rfl, by kernel_rfl, by kernel_rfl, by kernel_rfl⟩
theorem en_iHardOk_ok : EntOk Tryz.prog en_iHardOk := ⟨by kernel_rfl, by kernel_rfl, by kernel_rfl, by kernel_rfl, by kernel_rfl⟩
theorem en_iLastOf_ok : EntOk Tryz.prog en_iLastOf := ⟨by kernel_rfl, by kernel_rfl, by kernel_rfl, by kernel_rfl, by kernel_rfl⟩
theorem en_iisVote_ok : EntOk Tryz.prog en_iisVote := ⟨by kernel_rfl, by kernel_rfl, by kernel_rfl, by kernel_rfl, by kernel_rfl⟩
theorem en_iLogOk_ok : EntOk Tryz.prog en_iLogOk := ⟨by kernel_rfl, by kernel_rfl, by kernel_rfl, by kernel_rfl, by kernel_rfl⟩
theorem en_iCmdOk_ok : EntOk Tryz.prog en_iCmdOk := ⟨by kernel_rfl, by kernel_rfl, by kernel_rfl, by kernel_rfl, by kernel_rfl⟩
theorem en_ilineOk_ok : EntOk Tryz.prog en_ilineOk := ⟨by kernel_rfl, by kernel_rfl, by kernel_rfl, by kernel_rfl, by kernel_rfl⟩
theorem en_strings_Contains_ok : EntOk Tryz.prog en_strings_Contains := ⟨by kernel_rfl, by kernel_rfl, by kernel_rfl, by kernel_rfl, by kernel_rfl⟩
theorem en_iMachOk_ok : EntOk Tryz.prog en_iMachOk := ⟨by kernel_rfl, by kernel_rfl, by kernel_rfl, by kernel_rfl, by kernel_rfl⟩
theorem en_iStateOk_ok : EntOk Tryz.prog en_iStateOk := ⟨by kernel_rfl, by kernel_rfl, by kernel_rfl, by kernel_rfl, by kernel_rfl⟩
theorem en_slices_ContainsFunc_impl_Val_impl_Val_ok : EntOk Tryz.prog en_slices_ContainsFunc_impl_Val_impl_Val := ⟨by kernel_rfl, by kernel_rfl, by kernel_rfl, by kernel_rfl, by kernel_rfl⟩
theorem en_slices_IndexFunc_impl_Val_impl_Val_ok : EntOk Tryz.prog en_slices_IndexFunc_impl_Val_impl_Val := ⟨by kernel_rfl, by kernel_rfl, by kernel_rfl, by kernel_rfl, by kernel_rfl⟩
theorem en_iStateOk_1_ok : EntOk Tryz.prog en_iStateOk_1 := ⟨by kernel_rfl, by kernel_rfl, by kernel_rfl, by kernel_rfl, by kernel_rfl⟩
theorem en_iValOk_ok : EntOk Tryz.prog en_iValOk := ⟨by kernel_rfl, by kernel_rfl, by kernel_rfl, by kernel_rfl, by kernel_rfl⟩
theorem en_iDecLooks_ok : EntOk Tryz.prog en_iDecLooks := ⟨by kernel_rfl, by kernel_rfl, by kernel_rfl, by kernel_rfl, by kernel_rfl⟩
theorem en_iDecFront_ok : EntOk Tryz.prog en_iDecFront := ⟨by kernel_rfl, by kernel_rfl, by kernel_rfl, by kernel_rfl, by kernel_rfl⟩
theorem en_strings_TrimLeft_ok : EntOk Tryz.prog en_strings_TrimLeft := ⟨by kernel_rfl, by kernel_rfl, by kernel_rfl, by kernel_rfl, by kernel_rfl⟩
theorem en_strings_trimLeftByte_ok : EntOk Tryz.prog en_strings_trimLeftByte := ⟨by kernel_rfl, by kernel_rfl, by kernel_rfl, by kernel_rfl, by kernel_rfl⟩
theorem en_idigitsAt_ok : EntOk Tryz.prog en_idigitsAt := ⟨by kernel_rfl, by kernel_rfl, by kernel_rfl, by kernel_rfl, by kernel_rfl⟩
theorem en_imillionths_ok : EntOk Tryz.prog en_imillionths := ⟨by kernel_rfl, by kernel_rfl, by kernel_rfl, by kernel_rfl, by kernel_rfl⟩
theorem en_strconv_Atoi_ok : EntOk Tryz.prog en_strconv_Atoi := ⟨by kernel_rfl, by kernel_rfl, by kernel_rfl, by kernel_rfl, by kernel_rfl⟩
theorem en_iright_ok : EntOk Tryz.prog en_iright := ⟨by kernel_rfl, by kernel_rfl, by kernel_rfl, by kernel_rfl, by kernel_rfl⟩
theorem en_strings_Trim_ok : EntOk Tryz.prog en_strings_Trim := ⟨by kernel_rfl, by kernel_rfl, by kernel_rfl, by kernel_rfl, by kernel_rfl⟩
theorem en_strings_trimRightByte_ok : EntOk Tryz.prog en_strings_trimRightByte := ⟨by kernel_rfl, by kernel_rfl, by kernel_rfl, by kernel_rfl, by kernel_rfl⟩
theorem en_icellBefore_ok : EntOk Tryz.prog en_icellBefore := ⟨by kernel_rfl, by kernel_rfl, by kernel_rfl, by kernel_rfl, by kernel_rfl⟩
theorem en_strings_Compare_ok : EntOk Tryz.prog en_strings_Compare := ⟨by kernel_rfl, by kernel_rfl, by kernel_rfl, by kernel_rfl, by kernel_rfl⟩
theorem en_slices_ContainsFunc_int_int_ok : EntOk Tryz.prog en_slices_ContainsFunc_int_int := ⟨by kernel_rfl, by kernel_rfl, by kernel_rfl, by kernel_rfl, by kernel_rfl⟩
theorem en_slices_IndexFunc_int_int_ok : EntOk Tryz.prog en_slices_IndexFunc_int_int := ⟨by kernel_rfl, by kernel_rfl, by kernel_rfl, by kernel_rfl, by kernel_rfl⟩
theorem en_iMachOk_1_ok : EntOk Tryz.prog en_iMachOk_1 := ⟨by kernel_rfl, by kernel_rfl, by kernel_rfl, by kernel_rfl, by kernel_rfl⟩
theorem en_inumbersOk_ok : EntOk Tryz.prog en_inumbersOk := ⟨by kernel_rfl, by kernel_rfl, by kernel_rfl, by kernel_rfl, by kernel_rfl⟩
theorem en_slices_ContainsFunc_int_int_2_ok : EntOk Tryz.prog en_slices_ContainsFunc_int_int_2 := ⟨by kernel_rfl, by kernel_rfl, by kernel_rfl, by kernel_rfl, by kernel_rfl⟩
theorem en_slices_IndexFunc_int_int_2_ok : EntOk Tryz.prog en_slices_IndexFunc_int_int_2 := ⟨by kernel_rfl, by kernel_rfl, by kernel_rfl, by kernel_rfl, by kernel_rfl⟩
theorem en_inumbersOk_1_ok : EntOk Tryz.prog en_inumbersOk_1 := ⟨by kernel_rfl, by kernel_rfl, by kernel_rfl, by kernel_rfl, by kernel_rfl⟩
theorem en_iDiskOk_ok : EntOk Tryz.prog en_iDiskOk := ⟨by kernel_rfl, by kernel_rfl, by kernel_rfl, by kernel_rfl, by kernel_rfl⟩
theorem en_slices_ContainsFunc_impl_Rpc_impl_Rpc_ok : EntOk Tryz.prog en_slices_ContainsFunc_impl_Rpc_impl_Rpc := ⟨by kernel_rfl, by kernel_rfl, by kernel_rfl, by kernel_rfl, by kernel_rfl⟩
theorem en_slices_IndexFunc_impl_Rpc_impl_Rpc_ok : EntOk Tryz.prog en_slices_IndexFunc_impl_Rpc_impl_Rpc := ⟨by kernel_rfl, by kernel_rfl, by kernel_rfl, by kernel_rfl, by kernel_rfl⟩
theorem en_iPeerOk_1_ok : EntOk Tryz.prog en_iPeerOk_1 := ⟨by kernel_rfl, by kernel_rfl, by kernel_rfl, by kernel_rfl, by kernel_rfl⟩
theorem en_iRpcOk_ok : EntOk Tryz.prog en_iRpcOk := ⟨by kernel_rfl, by kernel_rfl, by kernel_rfl, by kernel_rfl, by kernel_rfl⟩
theorem en_ientriesOk_ok : EntOk Tryz.prog en_ientriesOk := ⟨by kernel_rfl, by kernel_rfl, by kernel_rfl, by kernel_rfl, by kernel_rfl⟩
theorem en_slices_ContainsFunc_impl_Entry_impl_Entry_ok : EntOk Tryz.prog en_slices_ContainsFunc_impl_Entry_impl_Entry := ⟨by kernel_rfl, by kernel_rfl, by kernel_rfl, by kernel_rfl, by kernel_rfl⟩
theorem en_slices_IndexFunc_impl_Entry_impl_Entry_ok : EntOk Tryz.prog en_slices_IndexFunc_impl_Entry_impl_Entry := ⟨by kernel_rfl, by kernel_rfl, by kernel_rfl, by kernel_rfl, by kernel_rfl⟩
theorem en_ientriesOk_1_ok : EntOk Tryz.prog en_ientriesOk_1 := ⟨by kernel_rfl, by kernel_rfl, by kernel_rfl, by kernel_rfl, by kernel_rfl⟩
theorem en_slices_ContainsFunc_impl_Rpc_impl_Rpc_2_ok : EntOk Tryz.prog en_slices_ContainsFunc_impl_Rpc_impl_Rpc_2 := ⟨by kernel_rfl, by kernel_rfl, by kernel_rfl, by kernel_rfl, by kernel_rfl⟩
theorem en_slices_IndexFunc_impl_Rpc_impl_Rpc_2_ok : EntOk Tryz.prog en_slices_IndexFunc_impl_Rpc_impl_Rpc_2 := ⟨by kernel_rfl, by kernel_rfl, by kernel_rfl, by kernel_rfl, by kernel_rfl⟩
theorem en_iWorldOk_1_ok : EntOk Tryz.prog en_iWorldOk_1 := ⟨by kernel_rfl, by kernel_rfl, by kernel_rfl, by kernel_rfl, by kernel_rfl⟩
theorem en_slices_ContainsFunc_impl_Cmd_impl_Cmd_ok : EntOk Tryz.prog en_slices_ContainsFunc_impl_Cmd_impl_Cmd := ⟨by kernel_rfl, by kernel_rfl, by kernel_rfl, by kernel_rfl, by kernel_rfl⟩
theorem en_slices_IndexFunc_impl_Cmd_impl_Cmd_ok : EntOk Tryz.prog en_slices_IndexFunc_impl_Cmd_impl_Cmd := ⟨by kernel_rfl, by kernel_rfl, by kernel_rfl, by kernel_rfl, by kernel_rfl⟩
theorem en_iWorldOk_2_ok : EntOk Tryz.prog en_iWorldOk_2 := ⟨by kernel_rfl, by kernel_rfl, by kernel_rfl, by kernel_rfl, by kernel_rfl⟩
theorem en_eqWorld_ok : EntOk Tryz.prog en_eqWorld := ⟨by kernel_rfl, by kernel_rfl, by kernel_rfl, by kernel_rfl, by kernel_rfl⟩
theorem en_eqProg_ok : EntOk Tryz.prog en_eqProg := ⟨by kernel_rfl, by kernel_rfl, by kernel_rfl, by kernel_rfl, by kernel_rfl⟩
theorem en_eqStringS_ok : EntOk Tryz.prog en_eqStringS := ⟨by kernel_rfl, by kernel_rfl, by kernel_rfl, by kernel_rfl, by kernel_rfl⟩
theorem en_eqOpS_ok : EntOk Tryz.prog en_eqOpS := ⟨by kernel_rfl, by kernel_rfl, by kernel_rfl, by kernel_rfl, by kernel_rfl⟩
theorem en_eqOp_ok : EntOk Tryz.prog en_eqOp := ⟨by kernel_rfl, by kernel_rfl, by kernel_rfl, by kernel_rfl, by kernel_rfl⟩
theorem en_eqPeerS_ok : EntOk Tryz.prog en_eqPeerS := ⟨by kernel_rfl, by kernel_rfl, by kernel_rfl, by kernel_rfl, by kernel_rfl⟩
theorem en_eqPeer_ok : EntOk Tryz.prog en_eqPeer := ⟨by kernel_rfl, by kernel_rfl, by kernel_rfl, by kernel_rfl, by kernel_rfl⟩
theorem en_eqHard_ok : EntOk Tryz.prog en_eqHard := ⟨by kernel_rfl, by kernel_rfl, by kernel_rfl, by kernel_rfl, by kernel_rfl⟩
theorem en_eqLog_ok : EntOk Tryz.prog en_eqLog := ⟨by kernel_rfl, by kernel_rfl, by kernel_rfl, by kernel_rfl, by kernel_rfl⟩
theorem en_eqEntryS_ok : EntOk Tryz.prog en_eqEntryS := ⟨by kernel_rfl, by kernel_rfl, by kernel_rfl, by kernel_rfl, by kernel_rfl⟩
theorem en_eqEntry_ok : EntOk Tryz.prog en_eqEntry := ⟨by kernel_rfl, by kernel_rfl, by kernel_rfl, by kernel_rfl, by kernel_rfl⟩
theorem en_eqCmd_ok : EntOk Tryz.prog en_eqCmd := ⟨by kernel_rfl, by kernel_rfl, by kernel_rfl, by kernel_rfl, by kernel_rfl⟩
theorem en_eqMach_ok : EntOk Tryz.prog en_eqMach := ⟨by kernel_rfl, by kernel_rfl, by kernel_rfl, by kernel_rfl, by kernel_rfl⟩
theorem en_eqState_ok : EntOk Tryz.prog en_eqState := ⟨by kernel_rfl, by kernel_rfl, by kernel_rfl, by kernel_rfl, by kernel_rfl⟩
theorem en_eqValS_ok : EntOk Tryz.prog en_eqValS := ⟨by kernel_rfl, by kernel_rfl, by kernel_rfl, by kernel_rfl, by kernel_rfl⟩
theorem en_eqVal_ok : EntOk Tryz.prog en_eqVal := ⟨by kernel_rfl, by kernel_rfl, by kernel_rfl, by kernel_rfl, by kernel_rfl⟩
theorem en_eqCellS_ok : EntOk Tryz.prog en_eqCellS := ⟨by kernel_rfl, by kernel_rfl, by kernel_rfl, by kernel_rfl, by kernel_rfl⟩
theorem en_eqCell_ok : EntOk Tryz.prog en_eqCell := ⟨by kernel_rfl, by kernel_rfl, by kernel_rfl, by kernel_rfl, by kernel_rfl⟩
theorem en_eqIntS_ok : EntOk Tryz.prog en_eqIntS := ⟨by kernel_rfl, by kernel_rfl, by kernel_rfl, by kernel_rfl, by kernel_rfl⟩
theorem en_eqBoolS_ok : EntOk Tryz.prog en_eqBoolS := ⟨by kernel_rfl, by kernel_rfl, by kernel_rfl, by kernel_rfl, by kernel_rfl⟩
theorem en_eqDisk_ok : EntOk Tryz.prog en_eqDisk := ⟨by kernel_rfl, by kernel_rfl, by kernel_rfl, by kernel_rfl, by kernel_rfl⟩
theorem en_eqByteS_ok : EntOk Tryz.prog en_eqByteS := ⟨by kernel_rfl, by kernel_rfl, by kernel_rfl, by kernel_rfl, by kernel_rfl⟩
theorem en_eqRpcS_ok : EntOk Tryz.prog en_eqRpcS := ⟨by kernel_rfl, by kernel_rfl, by kernel_rfl, by kernel_rfl, by kernel_rfl⟩
theorem en_eqRpc_ok : EntOk Tryz.prog en_eqRpc := ⟨by kernel_rfl, by kernel_rfl, by kernel_rfl, by kernel_rfl, by kernel_rfl⟩
theorem en_eqSink_ok : EntOk Tryz.prog en_eqSink := ⟨by kernel_rfl, by kernel_rfl, by kernel_rfl, by kernel_rfl, by kernel_rfl⟩
theorem en_eqCmdS_ok : EntOk Tryz.prog en_eqCmdS := ⟨by kernel_rfl, by kernel_rfl, by kernel_rfl, by kernel_rfl, by kernel_rfl⟩
theorem en_FnExactEven_ok : EntOk Tryz.prog en_FnExactEven := ⟨by kernel_rfl, by kernel_rfl, by kernel_rfl, by kernel_rfl, by kernel_rfl⟩
theorem en_sEven_ok : EntOk Tryz.prog en_sEven := ⟨by kernel_rfl, by kernel_rfl, by kernel_rfl, by kernel_rfl, by kernel_rfl⟩
theorem en_sl28Even_ok : EntOk Tryz.prog en_sl28Even := ⟨by kernel_rfl, by kernel_rfl, by kernel_rfl, by kernel_rfl, by kernel_rfl⟩
theorem en_iEven_ok : EntOk Tryz.prog en_iEven := ⟨by kernel_rfl, by kernel_rfl, by kernel_rfl, by kernel_rfl, by kernel_rfl⟩
theorem en_FnExactJudgeLead_ok : EntOk Tryz.prog en_FnExactJudgeLead := ⟨by kernel_rfl, by kernel_rfl, by kernel_rfl, by kernel_rfl, by kernel_rfl⟩
theorem en_sJudgeLead_ok : EntOk Tryz.prog en_sJudgeLead := ⟨by kernel_rfl, by kernel_rfl, by kernel_rfl, by kernel_rfl, by kernel_rfl⟩
theorem en_iJudgeLead_ok : EntOk Tryz.prog en_iJudgeLead := ⟨by kernel_rfl, by kernel_rfl, by kernel_rfl, by kernel_rfl, by kernel_rfl⟩
theorem tys_ok : tysB Tryz.prog tys = true := by kernel_rfl
theorem ents_ok : Ents Tryz.prog tabL := .cons en_FnExactLeader_ok (.cons en_szWorld_ok (.cons en_szProg_ok (.cons en_szStringS_ok (.cons en_szOpS_ok (.cons en_szOp_ok (.cons en_szPeerS_ok (.cons en_szPeer_ok (.cons en_szHard_ok (.cons en_szLog_ok (.cons en_szEntryS_ok (.cons en_szEntry_ok (.cons en_szCmd_ok (.cons en_szMach_ok (.cons en_szState_ok (.cons en_szValS_ok (.cons en_szVal_ok (.cons en_szCellS_ok (.cons en_szCell_ok (.cons en_szIntS_ok (.cons en_szBoolS_ok (.cons en_szDisk_ok (.cons en_szByteS_ok (.cons en_szRpcS_ok (.cons en_szRpc_ok (.cons en_szSink_ok (.cons en_szCmdS_ok (.cons en_toWorld_ok (.cons en_toProg_ok (.cons en_toStringS_ok (.cons en_toOpS_ok (.cons en_toOp_ok (.cons en_toPeerS_ok (.cons en_toPeer_ok (.cons en_toHard_ok (.cons en_toLog_ok (.cons en_toEntryS_ok (.cons en_toEntry_ok (.cons en_toCmd_ok (.cons en_toMach_ok (.cons en_toState_ok (.cons en_toValS_ok (.cons en_toVal_ok (.cons en_toCellS_ok (.cons en_toCell_ok (.cons en_toIntS_ok (.cons en_toBoolS_ok (.cons en_toDisk_ok (.cons en_toByteS_ok (.cons en_toRpcS_ok (.cons en_toRpc_ok (.cons en_toSink_ok (.cons en_toCmdS_ok (.cons en_sLeader_ok (.cons en_sWorldOk_ok (.cons en_sProgOk_ok (.cons en_sl9Name_ok (.cons en_sl7Letter_ok (.cons en_sl1In_ok (.cons en_sKeyword_ok (.cons en_sl7Within_ok (.cons en_sl7Calls_ok (.cons en_sOpsOk_ok (.cons en_sl13Op_ok (.cons en_sDecOk_ok (.cons en_sRexParse_ok (.cons en_sl3Pattern_ok (.cons en_sl3Part_ok (.cons en_sl3Piece_ok (.cons en_sl3Atom_ok (.cons en_sl3Now_ok (.cons en_sl3Set_ok (.cons en_sl3Deep_ok (.cons en_sl1Max_ok (.cons en_sSinkOk_ok (.cons en_sl26Nums_ok (.cons en_sPeerOk_ok (.cons en_sHardOk_ok (.cons en_sLastOf_ok (.cons en_sLogOk_ok (.cons en_sCmdOk_ok (.cons en_sl9Line_ok (.cons en_sMachOk_ok (.cons en_sStateOk_ok (.cons en_sValOk_ok (.cons en_sDecLooks_ok (.cons en_sDecFront_ok (.cons en_sl2Digit_ok (.cons en_sl11Less_ok (.cons en_sRpcOk_ok (.cons en_sl19List_ok (.cons en_sDiskOk_ok (.cons en_iLeader_ok (.cons en_iWorldOk_ok (.cons en_iProgOk_ok (.cons en_inamesOk_ok (.cons en_iisName_ok (.cons en_iin_ok (.cons en_ilettersAt_ok (.cons en_iisLetter_ok (.cons en_iKeyword_ok (.cons en_icalls_ok (.cons en_slices_Contains_string_string_ok (.cons en_slices_Index_string_string_ok (.cons en_slices_ContainsFunc_string_string_ok (.cons en_slices_IndexFunc_string_string_ok (.cons en_iProgOk_1_ok (.cons en_iOpsOk_ok (.cons en_slices_ContainsFunc_impl_Op_impl_Op_ok (.cons en_slices_IndexFunc_impl_Op_impl_Op_ok (.cons en_iOpsOk_1_ok (.cons en_iopRight_ok (.cons en_iopName_ok (.cons en_iDecOk_ok (.cons en_iisRex_ok (.cons en_iRexParse_ok (.cons en_irexReader_pattern_ok (.cons en_irexReader_part_ok (.cons en_irexReader_next_ok (.cons en_irexReader_piece_ok (.cons en_irexReader_atom_ok (.cons en_irexReader_take_ok (.cons en_irexReader_set_ok (.cons en_strings_IndexByte_ok (.cons en_irepeatOf_ok (.cons en_irexDeep_ok (.cons en_iSinkOk_ok (.cons en_iisIndex_ok (.cons en_iPeerOk_ok (.cons en_iHardOk_ok (.cons en_iLastOf_ok (.cons en_iisVote_ok (.cons en_iLogOk_ok (.cons en_iCmdOk_ok (.cons en_ilineOk_ok (.cons en_strings_Contains_ok (.cons en_iMachOk_ok (.cons en_iStateOk_ok (.cons en_slices_ContainsFunc_impl_Val_impl_Val_ok (.cons en_slices_IndexFunc_impl_Val_impl_Val_ok (.cons en_iStateOk_1_ok (.cons en_iValOk_ok (.cons en_iDecLooks_ok (.cons en_iDecFront_ok (.cons en_strings_TrimLeft_ok (.cons en_strings_trimLeftByte_ok (.cons en_idigitsAt_ok (.cons en_imillionths_ok (.cons en_strconv_Atoi_ok (.cons en_iright_ok (.cons en_strings_Trim_ok (.cons en_strings_trimRightByte_ok (.cons en_icellBefore_ok (.cons en_strings_Compare_ok (.cons en_slices_ContainsFunc_int_int_ok (.cons en_slices_IndexFunc_int_int_ok (.cons en_iMachOk_1_ok (.cons en_inumbersOk_ok (.cons en_slices_ContainsFunc_int_int_2_ok (.cons en_slices_IndexFunc_int_int_2_ok (.cons en_inumbersOk_1_ok (.cons en_iDiskOk_ok (.cons en_slices_ContainsFunc_impl_Rpc_impl_Rpc_ok (.cons en_slices_IndexFunc_impl_Rpc_impl_Rpc_ok (.cons en_iPeerOk_1_ok (.cons en_iRpcOk_ok (.cons en_ientriesOk_ok (.cons en_slices_ContainsFunc_impl_Entry_impl_Entry_ok (.cons en_slices_IndexFunc_impl_Entry_impl_Entry_ok (.cons en_ientriesOk_1_ok (.cons en_slices_ContainsFunc_impl_Rpc_impl_Rpc_2_ok (.cons en_slices_IndexFunc_impl_Rpc_impl_Rpc_2_ok (.cons en_iWorldOk_1_ok (.cons en_slices_ContainsFunc_impl_Cmd_impl_Cmd_ok (.cons en_slices_IndexFunc_impl_Cmd_impl_Cmd_ok (.cons en_iWorldOk_2_ok (.cons en_eqWorld_ok (.cons en_eqProg_ok (.cons en_eqStringS_ok (.cons en_eqOpS_ok (.cons en_eqOp_ok (.cons en_eqPeerS_ok (.cons en_eqPeer_ok (.cons en_eqHard_ok (.cons en_eqLog_ok (.cons en_eqEntryS_ok (.cons en_eqEntry_ok (.cons en_eqCmd_ok (.cons en_eqMach_ok (.cons en_eqState_ok (.cons en_eqValS_ok (.cons en_eqVal_ok (.cons en_eqCellS_ok (.cons en_eqCell_ok (.cons en_eqIntS_ok (.cons en_eqBoolS_ok (.cons en_eqDisk_ok (.cons en_eqByteS_ok (.cons en_eqRpcS_ok (.cons en_eqRpc_ok (.cons en_eqSink_ok (.cons en_eqCmdS_ok (.cons en_FnExactEven_ok (.cons en_sEven_ok (.cons en_sl28Even_ok (.cons en_iEven_ok (.cons en_FnExactJudgeLead_ok (.cons en_sJudgeLead_ok (.cons en_iJudgeLead_ok Ents.nil))))))))))))))))))))))))))))))))))))))))))))))))))))))))))))))))))))))))))))))))))))))))))))))))))))))))))))))))))))))))))))))))))))))))))))))))))))))))))))))))))))))))))))))))))))))))))))))))))))))))))))))))
end Go.Proofs.YtmabfdnconccnaaGreatDoor
