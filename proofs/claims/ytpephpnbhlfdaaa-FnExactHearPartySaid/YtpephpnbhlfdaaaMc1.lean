/-
The compact code of the functions that the law reaches, printed by gen.py, each with the proof that the machine's code is compiled to it.
-/
import Derived.Test.YtpephpnbhlfdaaaPeC
import Derived.Test.YtpephpnbhlfdaaaProg
import Derived.KernelRfl
set_option maxRecDepth 100000
namespace Go.Pe.Try
open Go.Pe

/-- the program; of its start-up memory nothing is asked. -/
noncomputable def prog : PG := ⟨Go.Proofs.Try.prog, fun _ => True, fun _ _ _ _ h => h⟩

theorem sz41 : sizeOfT prog.P 41 = some 6 := by kernel_rfl

/-- laws.FnExactHearParty -/
def lv3 : List (Nat × List Nat) := [(0, [0, 1, 2]), (1, [0, 1, 2, 7]), (2, [0, 1, 2, 7]), (3, [0, 1, 2, 22]), (4, [6]), (5, [0, 1, 2, 8, 9]), (6, [0, 1, 2, 8, 9, 10]), (7, [0, 1, 2, 8, 9, 10, 11, 12]), (8, [0, 1, 2, 8, 9, 10, 11, 12, 48]), (9, [6]), (10, [0, 1, 2, 8, 9, 10, 11, 12, 53]), (11, [6]), (12, [0, 1, 2, 8, 9, 10, 11, 12, 13]), (13, [0, 1, 2, 8, 9, 11, 12, 13]), (14, [0, 1, 2, 8, 9, 11, 69]), (15, [6]), (16, [0, 1, 2, 8, 9, 11, 14]), (17, [0, 1, 2, 8, 9, 11, 14]), (18, [0, 1, 2, 8, 9, 11, 14, 15]), (19, [0, 1, 2, 8, 9, 11, 14, 15]), (20, [0, 1, 2, 8, 9, 11, 14, 15, 77]), (21, [6]), (22, [0, 1, 2, 8, 9, 11, 14, 80]), (23, [6]), (24, [8, 9, 11, 14, 16, 17]), (25, [11, 14, 97]), (26, [6]), (27, [11, 14, 15]), (28, [14, 15]), (29, [14, 15, 102]), (30, [6]), (31, [105]), (32, [6]), (33, [6])]
def m3 : MC :=
  (.seq
 (.reg false [0, 1, 2] [⟨(some 6), none, false, .mov (.k (.d (.bool false)))⟩])
 (.seq
 (.reg false [0, 1, 2, 7] [⟨(some 7), none, false, .mov (.k (.d (.int .i64 1048576)))⟩])
 (.seq
 (.reg false [0, 1, 2, 7] [⟨(some 18), none, false, .mov (.t 0)⟩,
 ⟨(some 19), none, false, .mov (.t 7)⟩,
 ⟨(some 20), none, true, .call 5 [(.t 18), (.t 19)]⟩,
 ⟨(some 7), none, false, .mov (.t 20)⟩])
 (.seq
 (.seq
 (.reg false [0, 1, 2, 22] [⟨(some 21), none, false, .mov (.t 7)⟩,
 ⟨(some 22), none, false, .bin .lss (.t 21) (.k (.d (.int .i64 0)))⟩])
 (.cond (.t 22)
 (.seq
 (.reg false [6] [⟨(some 6), none, false, .mov (.k (.d (.bool true)))⟩])
 .ret)
 .skip))
 (.seq
 (.reg false [0, 1, 2, 8, 9] [⟨(some 24), none, false, .mov (.t 0)⟩,
 ⟨(some 25), none, true, .call 7 [(.t 24)]⟩,
 ⟨(some 26), none, false, .mov (.t 1)⟩,
 ⟨(some 27), none, false, .mov (.t 2)⟩,
 ⟨(some 28), none, true, .call 6 [(.t 25), (.t 26), (.t 27)]⟩,
 ⟨(some 23), none, false, .mov (.t 28)⟩,
 ⟨(some 29), none, false, .ext (.t 23) 0⟩,
 ⟨(some 30), none, false, .ext (.t 23) 1⟩,
 ⟨(some 8), none, false, .mov (.t 29)⟩,
 ⟨(some 9), none, false, .mov (.t 30)⟩])
 (.seq
 (.reg false [0, 1, 2, 8, 9, 10] [⟨(some 31), none, false, .mov (.t 0)⟩,
 ⟨(some 32), none, true, .call 7 [(.t 31)]⟩,
 ⟨(some 10), none, false, .mov (.t 32)⟩])
 (.seq
 (.reg false [0, 1, 2, 8, 9, 10, 11, 12] [⟨(some 34), none, false, .mov (.t 10)⟩,
 ⟨(some 35), none, false, .mov (.t 1)⟩,
 ⟨(some 36), none, false, .mov (.t 2)⟩,
 ⟨(some 37), none, true, .call 8 [(.t 34), (.t 35), (.t 36)]⟩,
 ⟨(some 33), none, false, .mov (.t 37)⟩,
 ⟨(some 38), none, false, .ext (.t 33) 0⟩,
 ⟨(some 39), none, false, .ext (.t 33) 1⟩,
 ⟨(some 11), none, false, .mov (.t 38)⟩,
 ⟨(some 12), none, false, .mov (.t 39)⟩])
 (.seq
 (.seq
 (.reg false [0, 1, 2, 8, 9, 10, 11, 12, 48] [⟨(some 40), none, false, .mov (.t 11)⟩,
 ⟨(some 41), none, false, .mov (.t 8)⟩,
 ⟨(some 42), none, true, .call 9 [(.t 40), (.t 41)]⟩,
 ⟨(some 43), none, false, .un .not (.t 42)⟩,
 ⟨(some 44), none, false, .mov (.t 43)⟩,
 ⟨(some 45), (some (44, false)), false, .mov (.t 12)⟩,
 ⟨(some 46), (some (44, false)), false, .mov (.t 9)⟩,
 ⟨(some 47), (some (44, false)), false, .bb .neq (.t 45) (.t 46)⟩,
 ⟨(some 48), none, false, .pick (.t 44) (.k (.d (.bool true))) (.t 47)⟩])
 (.cond (.t 48)
 (.seq
 (.reg false [6] [⟨(some 6), none, false, .mov (.k (.d (.bool false)))⟩])
 .ret)
 .skip))
 (.seq
 (.seq
 (.reg false [0, 1, 2, 8, 9, 10, 11, 12, 53] [⟨(some 49), none, false, .mov (.t 10)⟩,
 ⟨(some 50), none, false, .mov (.t 0)⟩,
 ⟨(some 51), none, true, .call 7 [(.t 50)]⟩,
 ⟨(some 52), none, true, .call 9 [(.t 49), (.t 51)]⟩,
 ⟨(some 53), none, false, .un .not (.t 52)⟩])
 (.cond (.t 53)
 (.seq
 (.reg false [6] [⟨(some 6), none, false, .mov (.k (.d (.bool false)))⟩])
 .ret)
 .skip))
 (.seq
 (.reg false [0, 1, 2, 8, 9, 10, 11, 12, 13] [⟨(some 13), none, false, .mov (.k (.d (.int .i64 1)))⟩])
 (.seq
 (.reg false [0, 1, 2, 8, 9, 11, 12, 13] [⟨(some 54), none, false, .mov (.t 10)⟩,
 ⟨(some 55), none, false, .mov (.t 13)⟩,
 ⟨(some 56), none, true, .call 10 [(.t 54), (.t 55)]⟩,
 ⟨(some 13), none, false, .mov (.t 56)⟩])
 (.seq
 (.seq
 (.reg false [0, 1, 2, 8, 9, 11, 69] [⟨(some 57), none, false, .mov (.t 13)⟩,
 ⟨(some 58), none, false, .bin .lss (.t 57) (.k (.d (.int .i64 0)))⟩,
 ⟨(some 59), none, false, .mov (.t 58)⟩,
 ⟨(some 60), (some (59, false)), false, .mov (.t 11)⟩,
 ⟨(some 61), (some (59, false)), false, .mov (.t 8)⟩,
 ⟨(some 62), (some (59, false)), true, .call 9 [(.t 60), (.t 61)]⟩,
 ⟨(some 63), (some (59, false)), false, .un .not (.t 62)⟩,
 ⟨(some 64), none, false, .pick (.t 59) (.k (.d (.bool true))) (.t 63)⟩,
 ⟨(some 65), none, false, .mov (.t 64)⟩,
 ⟨(some 66), (some (65, false)), false, .mov (.t 12)⟩,
 ⟨(some 67), (some (65, false)), false, .mov (.t 9)⟩,
 ⟨(some 68), (some (65, false)), false, .bb .neq (.t 66) (.t 67)⟩,
 ⟨(some 69), none, false, .pick (.t 65) (.k (.d (.bool true))) (.t 68)⟩])
 (.cond (.t 69)
 (.seq
 (.reg false [6] [⟨(some 6), none, false, .mov (.k (.d (.bool false)))⟩])
 .ret)
 .skip))
 (.seq
 (.reg false [0, 1, 2, 8, 9, 11, 14] [⟨(some 14), none, false, .mov (.k (.d (.int .i64 1)))⟩])
 (.seq
 (.reg false [0, 1, 2, 8, 9, 11, 14] [⟨(some 70), none, false, .mov (.t 11)⟩,
 ⟨(some 71), none, false, .mov (.t 14)⟩,
 ⟨(some 72), none, true, .call 10 [(.t 70), (.t 71)]⟩,
 ⟨(some 14), none, false, .mov (.t 72)⟩])
 (.seq
 (.reg false [0, 1, 2, 8, 9, 11, 14, 15] [⟨(some 15), none, false, .mov (.k (.d (.int .i64 1)))⟩])
 (.seq
 (.reg false [0, 1, 2, 8, 9, 11, 14, 15] [⟨(some 73), none, false, .mov (.t 11)⟩,
 ⟨(some 74), none, false, .mov (.t 15)⟩,
 ⟨(some 75), none, true, .call 11 [(.t 73), (.t 74)]⟩,
 ⟨(some 15), none, false, .mov (.t 75)⟩])
 (.seq
 (.seq
 (.reg false [0, 1, 2, 8, 9, 11, 14, 15, 77] [⟨(some 76), none, false, .mov (.t 15)⟩,
 ⟨(some 77), none, false, .bin .lss (.t 76) (.k (.d (.int .i64 0)))⟩])
 (.cond (.t 77)
 (.seq
 (.reg false [6] [⟨(some 6), none, false, .mov (.k (.d (.bool false)))⟩])
 .ret)
 .skip))
 (.seq
 (.seq
 (.reg false [0, 1, 2, 8, 9, 11, 14, 80] [⟨(some 78), none, false, .mov (.t 15)⟩,
 ⟨(some 79), none, false, .mov (.t 14)⟩,
 ⟨(some 80), none, false, .bin .neq (.t 78) (.t 79)⟩])
 (.cond (.t 80)
 (.seq
 (.reg false [6] [⟨(some 6), none, false, .mov (.k (.d (.bool false)))⟩])
 .ret)
 .skip))
 (.seq
 (.reg false [8, 9, 11, 14, 16, 17] [⟨(some 82), none, false, .mov (.t 0)⟩,
 ⟨(some 83), none, true, .call 7 [(.t 82)]⟩,
 ⟨(some 84), none, false, .mov (.t 1)⟩,
 ⟨(some 85), none, false, .mov (.t 2)⟩,
 ⟨(some 86), none, true, .call 8 [(.t 83), (.t 84), (.t 85)]⟩,
 ⟨(some 81), none, false, .mov (.t 86)⟩,
 ⟨(some 87), none, false, .ext (.t 81) 0⟩,
 ⟨(some 88), none, false, .ext (.t 81) 1⟩,
 ⟨(some 16), none, false, .mov (.t 87)⟩,
 ⟨(some 17), none, false, .mov (.t 88)⟩])
 (.seq
 (.seq
 (.reg false [11, 14, 97] [⟨(some 89), none, false, .mov (.t 16)⟩,
 ⟨(some 90), none, false, .mov (.t 8)⟩,
 ⟨(some 91), none, true, .call 9 [(.t 89), (.t 90)]⟩,
 ⟨(some 92), none, false, .un .not (.t 91)⟩,
 ⟨(some 93), none, false, .mov (.t 92)⟩,
 ⟨(some 94), (some (93, false)), false, .mov (.t 17)⟩,
 ⟨(some 95), (some (93, false)), false, .mov (.t 9)⟩,
 ⟨(some 96), (some (93, false)), false, .bb .neq (.t 94) (.t 95)⟩,
 ⟨(some 97), none, false, .pick (.t 93) (.k (.d (.bool true))) (.t 96)⟩])
 (.cond (.t 97)
 (.seq
 (.reg false [6] [⟨(some 6), none, false, .mov (.k (.d (.bool false)))⟩])
 .ret)
 .skip))
 (.seq
 (.reg false [11, 14, 15] [⟨(some 15), none, false, .mov (.k (.d (.int .i64 1)))⟩])
 (.seq
 (.reg false [14, 15] [⟨(some 98), none, false, .mov (.t 11)⟩,
 ⟨(some 99), none, false, .mov (.t 15)⟩,
 ⟨(some 100), none, true, .call 11 [(.t 98), (.t 99)]⟩,
 ⟨(some 15), none, false, .mov (.t 100)⟩])
 (.seq
 (.seq
 (.reg false [14, 15, 102] [⟨(some 101), none, false, .mov (.t 15)⟩,
 ⟨(some 102), none, false, .bin .lss (.t 101) (.k (.d (.int .i64 0)))⟩])
 (.cond (.t 102)
 (.seq
 (.reg false [6] [⟨(some 6), none, false, .mov (.k (.d (.bool false)))⟩])
 .ret)
 .skip))
 (.seq
 (.seq
 (.reg false [105] [⟨(some 103), none, false, .mov (.t 15)⟩,
 ⟨(some 104), none, false, .mov (.t 14)⟩,
 ⟨(some 105), none, false, .bin .neq (.t 103) (.t 104)⟩])
 (.cond (.t 105)
 (.seq
 (.reg false [6] [⟨(some 6), none, false, .mov (.k (.d (.bool false)))⟩])
 .ret)
 .skip))
 (.seq
 (.reg false [6] [⟨(some 6), none, false, .mov (.k (.d (.bool true)))⟩])
 .ret)))))))))))))))))))))))))
theorem c3 : (Go.Proofs.Try.f3).body.bind (comp prog.P (3, (Go.Proofs.Try.f3).ntmps) lv3) = some m3 := by kernel_rfl
theorem r3 : resOK prog.P (Go.Proofs.Try.f3).results.toList = true := by kernel_rfl

/-- laws.szAppealS -/
def lv5 : List (Nat × List Nat) := [(0, [0, 1]), (1, [0, 1]), (2, [0, 1, 11]), (3, [4]), (4, [0, 1, 5]), (5, [0, 1, 5, 15]), (6, [0, 1, 5]), (7, [0, 1, 5]), (8, [0, 1, 5, 25]), (9, [4]), (10, [4])]
def m5 : MC :=
  (.seq
 (.reg false [0, 1] [⟨(some 4), none, false, .mov (.k (.d (.int .i64 0)))⟩])
 (.seq
 (.reg false [0, 1] [⟨(some 6), none, false, .mov (.t 1)⟩,
 ⟨(some 7), none, false, .mov (.t 0)⟩,
 ⟨(some 8), none, false, .len false (.t 7)⟩,
 ⟨(some 9), none, false, .bin .sub (.t 6) (.t 8)⟩,
 ⟨(some 1), none, false, .mov (.t 9)⟩])
 (.seq
 (.seq
 (.reg false [0, 1, 11] [⟨(some 10), none, false, .mov (.t 1)⟩,
 ⟨(some 11), none, false, .bin .lss (.t 10) (.k (.d (.int .i64 0)))⟩])
 (.cond (.t 11)
 (.seq
 (.reg false [4] [⟨(some 4), none, false, .mov (.k (.d (.int .i64 (-1))))⟩])
 .ret)
 .skip))
 (.seq
 (.seq
 (.reg false [0, 1, 5] [⟨(some 5), none, false, .mov (.k (.d (.int .i64 0)))⟩])
 (.block 0
 (.loop
 (.seq
 (.seq
 (.reg false [0, 1, 5, 15] [⟨(some 12), none, false, .mov (.t 5)⟩,
 ⟨(some 13), none, false, .mov (.t 0)⟩,
 ⟨(some 14), none, false, .len false (.t 13)⟩,
 ⟨(some 15), none, false, .bin .lss (.t 12) (.t 14)⟩])
 (.cond (.t 15)
 .skip
 (.exit 0)))
 (.seq
 (.block 1
 (.seq
 (.reg false [0, 1, 5] [⟨(some 18), none, false, .mov (.t 0)⟩,
 ⟨(some 19), none, false, .mov (.t 5)⟩,
 ⟨(some 20), none, false, .ia 6 (.t 18) (.t 19)⟩,
 ⟨(some 21), none, false, .ld (some 6) (.t 20)⟩,
 ⟨(some 22), none, false, .mov (.t 1)⟩,
 ⟨(some 23), none, true, .call 17 [(.t 21), (.t 22)]⟩,
 ⟨(some 1), none, false, .mov (.t 23)⟩])
 (.seq
 (.reg false [0, 1, 5, 25] [⟨(some 24), none, false, .mov (.t 1)⟩,
 ⟨(some 25), none, false, .bin .lss (.t 24) (.k (.d (.int .i64 0)))⟩])
 (.cond (.t 25)
 (.seq
 (.reg false [4] [⟨(some 4), none, false, .mov (.k (.d (.int .i64 (-1))))⟩])
 .ret)
 .skip))))
 (.reg false [0, 1, 5] [⟨(some 16), none, false, .mov (.t 5)⟩,
 ⟨(some 17), none, false, .bin .add (.t 16) (.k (.d (.int .i64 1)))⟩,
 ⟨(some 5), none, false, .mov (.t 17)⟩]))))))
 (.seq
 (.reg false [4] [⟨(some 26), none, false, .mov (.t 1)⟩,
 ⟨(some 4), none, false, .mov (.t 26)⟩])
 .ret)))))
theorem c5 : (Go.Proofs.Try.f5).body.bind (comp prog.P (1, (Go.Proofs.Try.f5).ntmps) lv5) = some m5 := by kernel_rfl
theorem r5 : resOK prog.P (Go.Proofs.Try.f5).results.toList = true := by kernel_rfl

/-- spec.HearParty -/
def lv6 : List (Nat × List Nat) := [(0, [0, 1, 2]), (1, [0, 2, 8]), (2, [0, 2, 8, 47]), (3, [6, 7]), (4, [2, 8, 9]), (5, [2, 8, 9, 10]), (6, [8, 9, 10]), (7, [8, 9, 10, 66]), (8, [8, 9, 10]), (9, [9]), (10, [6, 7])]
def m6 : MC :=
  (.seq
 (.reg false [0, 1, 2] [⟨(some 6), none, false, .mov (.k .nil)⟩,
 ⟨(some 7), none, false, .mov (.k (.d (.bool false)))⟩])
 (.seq
 (.reg false [0, 2, 8] [⟨(some 11), none, false, .mov (.t 0)⟩,
 ⟨(some 12), none, false, .mov (.t 1)⟩,
 ⟨(some 13), none, true, .call 18 [(.t 11), (.t 12)]⟩,
 ⟨(some 8), none, false, .mov (.t 13)⟩])
 (.seq
 (.seq
 (.reg false [0, 2, 8, 47] [⟨(some 14), none, false, .mov (.t 0)⟩,
 ⟨(some 15), none, true, .call 19 [(.t 14)]⟩,
 ⟨(some 16), none, false, .un .not (.t 15)⟩,
 ⟨(some 17), none, false, .mov (.t 16)⟩,
 ⟨(some 18), (some (17, false)), false, .mov (.t 8)⟩,
 ⟨(some 19), (some (17, false)), false, .bin .lss (.t 18) (.k (.d (.int .i64 0)))⟩,
 ⟨(some 20), none, false, .pick (.t 17) (.k (.d (.bool true))) (.t 19)⟩,
 ⟨(some 21), none, false, .mov (.t 20)⟩,
 ⟨(some 22), (some (21, false)), false, .mov (.t 0)⟩,
 ⟨(some 23), (some (21, false)), false, .mov (.t 8)⟩,
 ⟨(some 24), (some (21, false)), false, .ia 6 (.t 22) (.t 23)⟩,
 ⟨(some 25), (some (21, false)), false, .fa 5 5 (.t 24)⟩,
 ⟨(some 26), (some (21, false)), false, .ld none (.t 25)⟩,
 ⟨(some 27), (some (21, false)), false, .bin .neq (.t 26) (.k (.d (.int .i64 0)))⟩,
 ⟨(some 28), none, false, .pick (.t 21) (.k (.d (.bool true))) (.t 27)⟩,
 ⟨(some 29), none, false, .mov (.t 28)⟩,
 ⟨(some 30), (some (29, false)), false, .mov (.t 0)⟩,
 ⟨(some 31), (some (29, false)), false, .mov (.t 8)⟩,
 ⟨(some 32), (some (29, false)), false, .ia 6 (.t 30) (.t 31)⟩,
 ⟨(some 33), (some (29, false)), false, .fa 3 3 (.t 32)⟩,
 ⟨(some 34), (some (29, false)), false, .ld none (.t 33)⟩,
 ⟨(some 35), (some (29, false)), false, .mov (.t 2)⟩,
 ⟨(some 36), (some (29, false)), true, .call 20 [(.t 34), (.t 35)]⟩,
 ⟨(some 37), (some (29, false)), false, .un .not (.t 36)⟩,
 ⟨(some 38), none, false, .pick (.t 29) (.k (.d (.bool true))) (.t 37)⟩,
 ⟨(some 39), none, false, .mov (.t 38)⟩,
 ⟨(some 40), (some (39, false)), false, .mov (.t 0)⟩,
 ⟨(some 41), (some (39, false)), false, .mov (.t 8)⟩,
 ⟨(some 42), (some (39, false)), false, .ia 6 (.t 40) (.t 41)⟩,
 ⟨(some 43), (some (39, false)), false, .fa 4 4 (.t 42)⟩,
 ⟨(some 44), (some (39, false)), false, .ld none (.t 43)⟩,
 ⟨(some 45), (some (39, false)), false, .mov (.t 2)⟩,
 ⟨(some 46), (some (39, false)), true, .call 20 [(.t 44), (.t 45)]⟩,
 ⟨(some 47), none, false, .pick (.t 39) (.k (.d (.bool true))) (.t 46)⟩])
 (.cond (.t 47)
 (.seq
 (.reg false [6, 7] [⟨(some 48), none, true, .bs 6 0 (.st (.cons (.int .i64 0) (.cons (.int .i64 0) (.cons (.int .i64 0) (.cons (.sl true 1 .nil) (.cons (.sl true 1 .nil) (.cons (.int .i64 0) .nil))))))) []⟩,
 ⟨(some 6), none, false, .mov (.t 48)⟩,
 ⟨(some 7), none, false, .mov (.k (.d (.bool false)))⟩])
 .ret)
 .skip))
 (.seq
 (.reg false [2, 8, 9] [⟨(some 49), none, false, .mov (.t 0)⟩,
 ⟨(some 50), none, true, .call 21 [(.t 49)]⟩,
 ⟨(some 9), none, false, .mov (.t 50)⟩])
 (.seq
 (.reg false [2, 8, 9, 10] [⟨(some 51), none, false, .mov (.t 9)⟩,
 ⟨(some 52), none, false, .mov (.t 8)⟩,
 ⟨(some 53), none, false, .ia 6 (.t 51) (.t 52)⟩,
 ⟨(some 54), none, false, .ld (some 6) (.t 53)⟩,
 ⟨(some 10), none, true, .alloc (.st (.cons (.int .i64 0) (.cons (.int .i64 0) (.cons (.int .i64 0) (.cons (.sl true 1 .nil) (.cons (.sl true 1 .nil) (.cons (.int .i64 0) .nil)))))))⟩,
 ⟨none, none, true, .st 6 (.t 10) (.t 54)⟩])
 (.seq
 (.reg false [8, 9, 10] [⟨(some 55), none, false, .fa 4 4 (.t 10)⟩,
 ⟨(some 56), none, false, .ld none (.t 55)⟩,
 ⟨(some 57), none, false, .mov (.t 2)⟩,
 ⟨(some 58), none, true, .call 22 [(.t 56), (.t 57)]⟩,
 ⟨(some 59), none, false, .fa 4 4 (.t 10)⟩,
 ⟨none, none, true, .st 1 (.t 59) (.t 58)⟩])
 (.seq
 (.seq
 (.reg false [8, 9, 10, 66] [⟨(some 60), none, false, .fa 4 4 (.t 10)⟩,
 ⟨(some 61), none, false, .ld none (.t 60)⟩,
 ⟨(some 62), none, false, .len false (.t 61)⟩,
 ⟨(some 63), none, false, .fa 3 3 (.t 10)⟩,
 ⟨(some 64), none, false, .ld none (.t 63)⟩,
 ⟨(some 65), none, false, .len false (.t 64)⟩,
 ⟨(some 66), none, false, .bin .eql (.t 62) (.t 65)⟩])
 (.cond (.t 66)
 (.reg false [8, 9, 10] [⟨(some 67), none, false, .fa 5 5 (.t 10)⟩,
 ⟨none, none, true, .st 1 (.t 67) (.k (.d (.int .i64 1)))⟩])
 .skip))
 (.seq
 (.reg false [9] [⟨(some 68), none, false, .mov (.t 9)⟩,
 ⟨(some 69), none, false, .mov (.t 8)⟩,
 ⟨(some 70), none, false, .ld (some 6) (.t 10)⟩,
 ⟨(some 71), none, false, .ia 6 (.t 68) (.t 69)⟩,
 ⟨none, none, true, .st 6 (.t 71) (.t 70)⟩])
 (.seq
 (.reg false [6, 7] [⟨(some 72), none, false, .mov (.t 9)⟩,
 ⟨(some 6), none, false, .mov (.t 72)⟩,
 ⟨(some 7), none, false, .mov (.k (.d (.bool true)))⟩])
 .ret)))))))))
theorem c6 : (Go.Proofs.Try.f6).body.bind (comp prog.P (3, (Go.Proofs.Try.f6).ntmps) lv6) = some m6 := by kernel_rfl
theorem r6 : resOK prog.P (Go.Proofs.Try.f6).results.toList = true := by kernel_rfl

/-- laws.toAppealS -/
def lv7 : List (Nat × List Nat) := [(0, [0]), (1, [0, 3]), (2, [0, 3, 4]), (3, [0, 3, 4, 11]), (4, [0, 3, 4]), (5, [0, 3, 4]), (6, [2])]
def m7 : MC :=
  (.seq
 (.reg false [0] [⟨(some 2), none, false, .mov (.k .nil)⟩])
 (.seq
 (.reg false [0, 3] [⟨(some 5), none, false, .mov (.t 0)⟩,
 ⟨(some 6), none, false, .len false (.t 5)⟩,
 ⟨(some 7), none, true, .mk 6 80 (.st (.cons (.int .i64 0) (.cons (.int .i64 0) (.cons (.int .i64 0) (.cons (.sl true 1 .nil) (.cons (.sl true 1 .nil) (.cons (.int .i64 0) .nil))))))) (.t 6)⟩,
 ⟨(some 3), none, false, .mov (.t 7)⟩])
 (.seq
 (.seq
 (.reg false [0, 3, 4] [⟨(some 4), none, false, .mov (.k (.d (.int .i64 0)))⟩])
 (.block 0
 (.loop
 (.seq
 (.seq
 (.reg false [0, 3, 4, 11] [⟨(some 8), none, false, .mov (.t 4)⟩,
 ⟨(some 9), none, false, .mov (.t 0)⟩,
 ⟨(some 10), none, false, .len false (.t 9)⟩,
 ⟨(some 11), none, false, .bin .lss (.t 8) (.t 10)⟩])
 (.cond (.t 11)
 .skip
 (.exit 0)))
 (.seq
 (.block 1
 (.reg false [0, 3, 4] [⟨(some 14), none, false, .mov (.t 3)⟩,
 ⟨(some 15), none, false, .mov (.t 4)⟩,
 ⟨(some 16), none, false, .mov (.t 0)⟩,
 ⟨(some 17), none, false, .mov (.t 4)⟩,
 ⟨(some 18), none, false, .ia 6 (.t 16) (.t 17)⟩,
 ⟨(some 19), none, false, .ld (some 6) (.t 18)⟩,
 ⟨(some 20), none, true, .call 23 [(.t 19)]⟩,
 ⟨(some 21), none, false, .ia 6 (.t 14) (.t 15)⟩,
 ⟨none, none, true, .st 6 (.t 21) (.t 20)⟩]))
 (.reg false [0, 3, 4] [⟨(some 12), none, false, .mov (.t 4)⟩,
 ⟨(some 13), none, false, .bin .add (.t 12) (.k (.d (.int .i64 1)))⟩,
 ⟨(some 4), none, false, .mov (.t 13)⟩]))))))
 (.seq
 (.reg false [2] [⟨(some 22), none, false, .mov (.t 3)⟩,
 ⟨(some 2), none, false, .mov (.t 22)⟩])
 .ret))))
theorem c7 : (Go.Proofs.Try.f7).body.bind (comp prog.P (1, (Go.Proofs.Try.f7).ntmps) lv7) = some m7 := by kernel_rfl
theorem r7 : resOK prog.P (Go.Proofs.Try.f7).results.toList = true := by kernel_rfl

/-- impl.HearParty -/
def lv8 : List (Nat × List Nat) := [(0, [0, 1, 2]), (1, [0, 2, 8]), (2, [0, 2, 8, 29]), (3, [6, 7]), (4, [2, 8, 9]), (5, [2, 9, 10]), (6, [9, 10]), (7, [9, 10]), (8, [9, 10, 60]), (9, [9]), (10, [6, 7])]
def m8 : MC :=
  (.seq
 (.reg false [0, 1, 2] [⟨(some 6), none, false, .mov (.k .nil)⟩,
 ⟨(some 7), none, false, .mov (.k (.d (.bool false)))⟩])
 (.seq
 (.reg false [0, 2, 8] [⟨(some 11), none, false, .mov (.t 0)⟩,
 ⟨(some 12), none, false, .mov (.t 1)⟩,
 ⟨(some 13), none, true, .call 24 [(.t 11), (.t 12)]⟩,
 ⟨(some 8), none, false, .mov (.t 13)⟩])
 (.seq
 (.seq
 (.reg false [0, 2, 8, 29] [⟨(some 14), none, false, .mov (.t 0)⟩,
 ⟨(some 15), none, true, .call 25 [(.t 14)]⟩,
 ⟨(some 16), none, false, .un .not (.t 15)⟩,
 ⟨(some 17), none, false, .mov (.t 16)⟩,
 ⟨(some 18), (some (17, false)), false, .mov (.t 8)⟩,
 ⟨(some 19), (some (17, false)), false, .bin .lss (.t 18) (.k (.d (.int .i64 0)))⟩,
 ⟨(some 20), none, false, .pick (.t 17) (.k (.d (.bool true))) (.t 19)⟩,
 ⟨(some 21), none, false, .mov (.t 20)⟩,
 ⟨(some 22), (some (21, false)), false, .mov (.t 0)⟩,
 ⟨(some 23), (some (21, false)), false, .mov (.t 8)⟩,
 ⟨(some 24), (some (21, false)), false, .ia 6 (.t 22) (.t 23)⟩,
 ⟨(some 25), (some (21, false)), false, .ld (some 6) (.t 24)⟩,
 ⟨(some 26), (some (21, false)), false, .mov (.t 2)⟩,
 ⟨(some 27), (some (21, false)), true, .call 26 [(.t 25), (.t 26)]⟩,
 ⟨(some 28), (some (21, false)), false, .un .not (.t 27)⟩,
 ⟨(some 29), none, false, .pick (.t 21) (.k (.d (.bool true))) (.t 28)⟩])
 (.cond (.t 29)
 (.seq
 (.reg false [6, 7] [⟨(some 6), none, false, .mov (.k .nil)⟩,
 ⟨(some 7), none, false, .mov (.k (.d (.bool false)))⟩])
 .ret)
 .skip))
 (.seq
 (.reg false [2, 8, 9] [⟨(some 30), none, false, .mov (.t 0)⟩,
 ⟨(some 31), none, true, .call 27 [(.t 30)]⟩,
 ⟨(some 9), none, false, .mov (.t 31)⟩])
 (.seq
 (.reg false [2, 9, 10] [⟨(some 32), none, false, .mov (.t 9)⟩,
 ⟨(some 33), none, false, .mov (.t 8)⟩,
 ⟨(some 34), none, false, .ia 6 (.t 32) (.t 33)⟩,
 ⟨(some 10), none, false, .mov (.t 34)⟩])
 (.seq
 (.reg false [9, 10] [⟨(some 35), none, false, .mov (.t 10)⟩,
 ⟨(some 36), none, false, .mov (.t 10)⟩,
 ⟨(some 37), none, false, .nck (.t 36)⟩,
 ⟨(some 38), none, false, .fa 4 4 (.t 37)⟩,
 ⟨(some 39), none, false, .ld none (.t 38)⟩,
 ⟨(some 40), none, false, .mov (.t 2)⟩,
 ⟨(some 41), none, true, .bs 1 1 (.int .i64 0) [(0, (.t 40))]⟩,
 ⟨(some 42), none, true, .app 1 8 (.t 39) (.t 41)⟩,
 ⟨(some 43), none, false, .nck (.t 35)⟩,
 ⟨(some 44), none, false, .fa 4 4 (.t 43)⟩,
 ⟨none, none, true, .st 1 (.t 44) (.t 42)⟩])
 (.seq
 (.reg false [9, 10] [⟨(some 45), none, false, .mov (.t 10)⟩,
 ⟨(some 46), none, false, .nck (.t 45)⟩,
 ⟨(some 47), none, false, .fa 4 4 (.t 46)⟩,
 ⟨(some 48), none, false, .ld none (.t 47)⟩,
 ⟨(some 49), none, true, .call 28 [(.t 48)]⟩])
 (.seq
 (.seq
 (.reg true [9, 10, 60] [⟨(some 50), none, false, .mov (.t 10)⟩,
 ⟨(some 51), none, false, .nck (.t 50)⟩,
 ⟨(some 52), none, false, .fa 4 4 (.t 51)⟩,
 ⟨(some 53), none, false, .ld none (.t 52)⟩,
 ⟨(some 54), none, false, .len false (.t 53)⟩,
 ⟨(some 55), none, false, .mov (.t 10)⟩,
 ⟨(some 56), none, false, .nck (.t 55)⟩,
 ⟨(some 57), none, false, .fa 3 3 (.t 56)⟩,
 ⟨(some 58), none, false, .ld none (.t 57)⟩,
 ⟨(some 59), none, false, .len false (.t 58)⟩,
 ⟨(some 60), none, false, .bin .eql (.t 54) (.t 59)⟩])
 (.cond (.t 60)
 (.reg false [9] [⟨(some 61), none, false, .mov (.t 10)⟩,
 ⟨(some 62), none, false, .nck (.t 61)⟩,
 ⟨(some 63), none, false, .fa 5 5 (.t 62)⟩,
 ⟨none, none, true, .st 1 (.t 63) (.k (.d (.int .i64 1)))⟩])
 .skip))
 (.seq
 (.reg false [6, 7] [⟨(some 64), none, false, .mov (.t 9)⟩,
 ⟨(some 6), none, false, .mov (.t 64)⟩,
 ⟨(some 7), none, false, .mov (.k (.d (.bool true)))⟩])
 .ret)))))))))
theorem c8 : (Go.Proofs.Try.f8).body.bind (comp prog.P (3, (Go.Proofs.Try.f8).ntmps) lv8) = some m8 := by kernel_rfl
theorem r8 : resOK prog.P (Go.Proofs.Try.f8).results.toList = true := by kernel_rfl

/-- laws.eqAppealS -/
def lv9 : List (Nat × List Nat) := [(0, [0, 1]), (1, [0, 1, 10]), (2, [4]), (3, [0, 1, 5]), (4, [0, 1, 5, 14]), (5, [0, 1, 5]), (6, [0, 1, 5, 26]), (7, [4]), (8, [4])]
def m9 : MC :=
  (.seq
 (.reg false [0, 1] [⟨(some 4), none, false, .mov (.k (.d (.bool false)))⟩])
 (.seq
 (.seq
 (.reg false [0, 1, 10] [⟨(some 6), none, false, .mov (.t 0)⟩,
 ⟨(some 7), none, false, .len false (.t 6)⟩,
 ⟨(some 8), none, false, .mov (.t 1)⟩,
 ⟨(some 9), none, false, .len false (.t 8)⟩,
 ⟨(some 10), none, false, .bin .neq (.t 7) (.t 9)⟩])
 (.cond (.t 10)
 (.seq
 (.reg false [4] [⟨(some 4), none, false, .mov (.k (.d (.bool false)))⟩])
 .ret)
 .skip))
 (.seq
 (.seq
 (.reg false [0, 1, 5] [⟨(some 5), none, false, .mov (.k (.d (.int .i64 0)))⟩])
 (.block 0
 (.loop
 (.seq
 (.seq
 (.reg false [0, 1, 5, 14] [⟨(some 11), none, false, .mov (.t 5)⟩,
 ⟨(some 12), none, false, .mov (.t 0)⟩,
 ⟨(some 13), none, false, .len false (.t 12)⟩,
 ⟨(some 14), none, false, .bin .lss (.t 11) (.t 13)⟩])
 (.cond (.t 14)
 .skip
 (.exit 0)))
 (.seq
 (.block 1
 (.seq
 (.reg true [0, 1, 5, 26] [⟨(some 17), none, false, .mov (.t 0)⟩,
 ⟨(some 18), none, false, .mov (.t 5)⟩,
 ⟨(some 19), none, false, .ia 6 (.t 17) (.t 18)⟩,
 ⟨(some 20), none, false, .ld (some 6) (.t 19)⟩,
 ⟨(some 21), none, false, .mov (.t 1)⟩,
 ⟨(some 22), none, false, .mov (.t 5)⟩,
 ⟨(some 23), none, false, .ia 6 (.t 21) (.t 22)⟩,
 ⟨(some 24), none, false, .ld (some 6) (.t 23)⟩,
 ⟨(some 25), none, false, .callP 29 [(.t 20), (.t 24)]⟩,
 ⟨(some 26), none, false, .un .not (.t 25)⟩])
 (.cond (.t 26)
 (.seq
 (.reg false [4] [⟨(some 4), none, false, .mov (.k (.d (.bool false)))⟩])
 .ret)
 .skip)))
 (.reg false [0, 1, 5] [⟨(some 15), none, false, .mov (.t 5)⟩,
 ⟨(some 16), none, false, .bin .add (.t 15) (.k (.d (.int .i64 1)))⟩,
 ⟨(some 5), none, false, .mov (.t 16)⟩]))))))
 (.seq
 (.reg false [4] [⟨(some 4), none, false, .mov (.k (.d (.bool true)))⟩])
 .ret))))
theorem c9 : (Go.Proofs.Try.f9).body.bind (comp prog.P (2, (Go.Proofs.Try.f9).ntmps) lv9) = some m9 := by kernel_rfl
theorem r9 : resOK prog.P (Go.Proofs.Try.f9).results.toList = true := by kernel_rfl

/-- laws.markAppealS -/
def lv10 : List (Nat × List Nat) := [(0, [0, 1]), (1, [0, 1, 5]), (2, [0, 1, 5, 9]), (3, [0, 1, 5]), (4, [0, 1, 5]), (5, [0, 1, 5]), (6, [0, 1, 5]), (7, [0, 1, 5]), (8, [0, 1, 5]), (9, [0, 1, 5]), (10, [0, 1, 5]), (11, [0, 1, 5]), (12, [0, 1, 5]), (13, [0, 1, 5]), (14, [0, 4])]
def m10 : MC :=
  (.seq
 (.reg false [0, 1] [⟨(some 4), none, false, .mov (.k (.d (.int .i64 0)))⟩])
 (.seq
 (.seq
 (.reg false [0, 1, 5] [⟨(some 5), none, false, .mov (.k (.d (.int .i64 0)))⟩])
 (.block 0
 (.loop
 (.seq
 (.seq
 (.reg false [0, 1, 5, 9] [⟨(some 6), none, false, .mov (.t 5)⟩,
 ⟨(some 7), none, false, .mov (.t 0)⟩,
 ⟨(some 8), none, false, .len false (.t 7)⟩,
 ⟨(some 9), none, false, .bin .lss (.t 6) (.t 8)⟩])
 (.cond (.t 9)
 .skip
 (.exit 0)))
 (.seq
 (.block 1
 (.seq
 (.reg false [0, 1, 5] [⟨(some 12), none, false, .mov (.t 0)⟩,
 ⟨(some 13), none, false, .mov (.t 5)⟩,
 ⟨(some 14), none, false, .mov (.t 1)⟩,
 ⟨(some 15), none, false, .ia 6 (.t 12) (.t 13)⟩,
 ⟨(some 16), none, false, .fa 0 0 (.t 15)⟩,
 ⟨none, none, true, .st 1 (.t 16) (.t 14)⟩])
 (.seq
 (.reg false [0, 1, 5] [⟨(some 17), none, false, .mov (.t 1)⟩,
 ⟨(some 18), none, false, .bin .add (.t 17) (.k (.d (.int .i64 1)))⟩,
 ⟨(some 1), none, false, .mov (.t 18)⟩])
 (.seq
 (.reg false [0, 1, 5] [⟨(some 19), none, false, .mov (.t 0)⟩,
 ⟨(some 20), none, false, .mov (.t 5)⟩,
 ⟨(some 21), none, false, .mov (.t 1)⟩,
 ⟨(some 22), none, false, .ia 6 (.t 19) (.t 20)⟩,
 ⟨(some 23), none, false, .fa 1 1 (.t 22)⟩,
 ⟨none, none, true, .st 1 (.t 23) (.t 21)⟩])
 (.seq
 (.reg false [0, 1, 5] [⟨(some 24), none, false, .mov (.t 1)⟩,
 ⟨(some 25), none, false, .bin .add (.t 24) (.k (.d (.int .i64 1)))⟩,
 ⟨(some 1), none, false, .mov (.t 25)⟩])
 (.seq
 (.reg false [0, 1, 5] [⟨(some 26), none, false, .mov (.t 0)⟩,
 ⟨(some 27), none, false, .mov (.t 5)⟩,
 ⟨(some 28), none, false, .mov (.t 1)⟩,
 ⟨(some 29), none, false, .ia 6 (.t 26) (.t 27)⟩,
 ⟨(some 30), none, false, .fa 2 2 (.t 29)⟩,
 ⟨none, none, true, .st 1 (.t 30) (.t 28)⟩])
 (.seq
 (.reg false [0, 1, 5] [⟨(some 31), none, false, .mov (.t 1)⟩,
 ⟨(some 32), none, false, .bin .add (.t 31) (.k (.d (.int .i64 1)))⟩,
 ⟨(some 1), none, false, .mov (.t 32)⟩])
 (.seq
 (.reg false [0, 1, 5] [⟨(some 33), none, false, .mov (.t 0)⟩,
 ⟨(some 34), none, false, .mov (.t 5)⟩,
 ⟨(some 35), none, false, .ia 6 (.t 33) (.t 34)⟩,
 ⟨(some 36), none, false, .fa 3 3 (.t 35)⟩,
 ⟨(some 37), none, false, .ld none (.t 36)⟩,
 ⟨(some 38), none, false, .mov (.t 1)⟩,
 ⟨(some 39), none, true, .call 15 [(.t 37), (.t 38)]⟩,
 ⟨(some 1), none, false, .mov (.t 39)⟩])
 (.seq
 (.reg false [0, 1, 5] [⟨(some 40), none, false, .mov (.t 0)⟩,
 ⟨(some 41), none, false, .mov (.t 5)⟩,
 ⟨(some 42), none, false, .ia 6 (.t 40) (.t 41)⟩,
 ⟨(some 43), none, false, .fa 4 4 (.t 42)⟩,
 ⟨(some 44), none, false, .ld none (.t 43)⟩,
 ⟨(some 45), none, false, .mov (.t 1)⟩,
 ⟨(some 46), none, true, .call 15 [(.t 44), (.t 45)]⟩,
 ⟨(some 1), none, false, .mov (.t 46)⟩])
 (.seq
 (.reg false [0, 1, 5] [⟨(some 47), none, false, .mov (.t 0)⟩,
 ⟨(some 48), none, false, .mov (.t 5)⟩,
 ⟨(some 49), none, false, .mov (.t 1)⟩,
 ⟨(some 50), none, false, .ia 6 (.t 47) (.t 48)⟩,
 ⟨(some 51), none, false, .fa 5 5 (.t 50)⟩,
 ⟨none, none, true, .st 1 (.t 51) (.t 49)⟩])
 (.reg false [0, 1, 5] [⟨(some 52), none, false, .mov (.t 1)⟩,
 ⟨(some 53), none, false, .bin .add (.t 52) (.k (.d (.int .i64 1)))⟩,
 ⟨(some 1), none, false, .mov (.t 53)⟩])))))))))))
 (.reg false [0, 1, 5] [⟨(some 10), none, false, .mov (.t 5)⟩,
 ⟨(some 11), none, false, .bin .add (.t 10) (.k (.d (.int .i64 1)))⟩,
 ⟨(some 5), none, false, .mov (.t 11)⟩]))))))
 (.seq
 (.reg false [0, 4] [⟨(some 54), none, false, .mov (.t 1)⟩,
 ⟨(some 4), none, false, .mov (.t 54)⟩])
 .ret)))
theorem c10 : (Go.Proofs.Try.f10).body.bind (comp prog.P (1, (Go.Proofs.Try.f10).ntmps) lv10) = some m10 := by kernel_rfl
theorem r10 : resOK prog.P (Go.Proofs.Try.f10).results.toList = true := by kernel_rfl

/-- laws.heldAppealS -/
def lv11 : List (Nat × List Nat) := [(0, [0, 1]), (1, [0, 1, 5]), (2, [0, 1, 5, 9]), (3, [0, 1, 5]), (4, [0, 1, 5, 18]), (5, [4]), (6, [0, 1, 5]), (7, [0, 1, 5, 27]), (8, [4]), (9, [0, 1, 5]), (10, [0, 1, 5, 36]), (11, [4]), (12, [0, 1, 5]), (13, [0, 1, 5]), (14, [0, 1, 5, 47]), (15, [4]), (16, [0, 1, 5]), (17, [0, 1, 5, 56]), (18, [4]), (19, [0, 1, 5, 63]), (20, [4]), (21, [0, 1, 5]), (22, [4])]
def m11 : MC :=
  (.seq
 (.reg false [0, 1] [⟨(some 4), none, false, .mov (.k (.d (.int .i64 0)))⟩])
 (.seq
 (.seq
 (.reg false [0, 1, 5] [⟨(some 5), none, false, .mov (.k (.d (.int .i64 0)))⟩])
 (.block 0
 (.loop
 (.seq
 (.seq
 (.reg false [0, 1, 5, 9] [⟨(some 6), none, false, .mov (.t 5)⟩,
 ⟨(some 7), none, false, .mov (.t 0)⟩,
 ⟨(some 8), none, false, .len false (.t 7)⟩,
 ⟨(some 9), none, false, .bin .lss (.t 6) (.t 8)⟩])
 (.cond (.t 9)
 .skip
 (.exit 0)))
 (.seq
 (.block 1
 (.seq
 (.seq
 (.reg false [0, 1, 5, 18] [⟨(some 12), none, false, .mov (.t 0)⟩,
 ⟨(some 13), none, false, .mov (.t 5)⟩,
 ⟨(some 14), none, false, .ia 6 (.t 12) (.t 13)⟩,
 ⟨(some 15), none, false, .fa 0 0 (.t 14)⟩,
 ⟨(some 16), none, false, .ld none (.t 15)⟩,
 ⟨(some 17), none, false, .mov (.t 1)⟩,
 ⟨(some 18), none, false, .bin .neq (.t 16) (.t 17)⟩])
 (.cond (.t 18)
 (.seq
 (.reg false [4] [⟨(some 4), none, false, .mov (.k (.d (.int .i64 (-1))))⟩])
 .ret)
 .skip))
 (.seq
 (.reg false [0, 1, 5] [⟨(some 19), none, false, .mov (.t 1)⟩,
 ⟨(some 20), none, false, .bin .add (.t 19) (.k (.d (.int .i64 1)))⟩,
 ⟨(some 1), none, false, .mov (.t 20)⟩])
 (.seq
 (.seq
 (.reg false [0, 1, 5, 27] [⟨(some 21), none, false, .mov (.t 0)⟩,
 ⟨(some 22), none, false, .mov (.t 5)⟩,
 ⟨(some 23), none, false, .ia 6 (.t 21) (.t 22)⟩,
 ⟨(some 24), none, false, .fa 1 1 (.t 23)⟩,
 ⟨(some 25), none, false, .ld none (.t 24)⟩,
 ⟨(some 26), none, false, .mov (.t 1)⟩,
 ⟨(some 27), none, false, .bin .neq (.t 25) (.t 26)⟩])
 (.cond (.t 27)
 (.seq
 (.reg false [4] [⟨(some 4), none, false, .mov (.k (.d (.int .i64 (-1))))⟩])
 .ret)
 .skip))
 (.seq
 (.reg false [0, 1, 5] [⟨(some 28), none, false, .mov (.t 1)⟩,
 ⟨(some 29), none, false, .bin .add (.t 28) (.k (.d (.int .i64 1)))⟩,
 ⟨(some 1), none, false, .mov (.t 29)⟩])
 (.seq
 (.seq
 (.reg false [0, 1, 5, 36] [⟨(some 30), none, false, .mov (.t 0)⟩,
 ⟨(some 31), none, false, .mov (.t 5)⟩,
 ⟨(some 32), none, false, .ia 6 (.t 30) (.t 31)⟩,
 ⟨(some 33), none, false, .fa 2 2 (.t 32)⟩,
 ⟨(some 34), none, false, .ld none (.t 33)⟩,
 ⟨(some 35), none, false, .mov (.t 1)⟩,
 ⟨(some 36), none, false, .bin .neq (.t 34) (.t 35)⟩])
 (.cond (.t 36)
 (.seq
 (.reg false [4] [⟨(some 4), none, false, .mov (.k (.d (.int .i64 (-1))))⟩])
 .ret)
 .skip))
 (.seq
 (.reg false [0, 1, 5] [⟨(some 37), none, false, .mov (.t 1)⟩,
 ⟨(some 38), none, false, .bin .add (.t 37) (.k (.d (.int .i64 1)))⟩,
 ⟨(some 1), none, false, .mov (.t 38)⟩])
 (.seq
 (.reg false [0, 1, 5] [⟨(some 39), none, false, .mov (.t 0)⟩,
 ⟨(some 40), none, false, .mov (.t 5)⟩,
 ⟨(some 41), none, false, .ia 6 (.t 39) (.t 40)⟩,
 ⟨(some 42), none, false, .fa 3 3 (.t 41)⟩,
 ⟨(some 43), none, false, .ld none (.t 42)⟩,
 ⟨(some 44), none, false, .mov (.t 1)⟩,
 ⟨(some 45), none, true, .call 16 [(.t 43), (.t 44)]⟩,
 ⟨(some 1), none, false, .mov (.t 45)⟩])
 (.seq
 (.seq
 (.reg false [0, 1, 5, 47] [⟨(some 46), none, false, .mov (.t 1)⟩,
 ⟨(some 47), none, false, .bin .lss (.t 46) (.k (.d (.int .i64 0)))⟩])
 (.cond (.t 47)
 (.seq
 (.reg false [4] [⟨(some 4), none, false, .mov (.k (.d (.int .i64 (-1))))⟩])
 .ret)
 .skip))
 (.seq
 (.reg false [0, 1, 5] [⟨(some 48), none, false, .mov (.t 0)⟩,
 ⟨(some 49), none, false, .mov (.t 5)⟩,
 ⟨(some 50), none, false, .ia 6 (.t 48) (.t 49)⟩,
 ⟨(some 51), none, false, .fa 4 4 (.t 50)⟩,
 ⟨(some 52), none, false, .ld none (.t 51)⟩,
 ⟨(some 53), none, false, .mov (.t 1)⟩,
 ⟨(some 54), none, true, .call 16 [(.t 52), (.t 53)]⟩,
 ⟨(some 1), none, false, .mov (.t 54)⟩])
 (.seq
 (.seq
 (.reg false [0, 1, 5, 56] [⟨(some 55), none, false, .mov (.t 1)⟩,
 ⟨(some 56), none, false, .bin .lss (.t 55) (.k (.d (.int .i64 0)))⟩])
 (.cond (.t 56)
 (.seq
 (.reg false [4] [⟨(some 4), none, false, .mov (.k (.d (.int .i64 (-1))))⟩])
 .ret)
 .skip))
 (.seq
 (.seq
 (.reg false [0, 1, 5, 63] [⟨(some 57), none, false, .mov (.t 0)⟩,
 ⟨(some 58), none, false, .mov (.t 5)⟩,
 ⟨(some 59), none, false, .ia 6 (.t 57) (.t 58)⟩,
 ⟨(some 60), none, false, .fa 5 5 (.t 59)⟩,
 ⟨(some 61), none, false, .ld none (.t 60)⟩,
 ⟨(some 62), none, false, .mov (.t 1)⟩,
 ⟨(some 63), none, false, .bin .neq (.t 61) (.t 62)⟩])
 (.cond (.t 63)
 (.seq
 (.reg false [4] [⟨(some 4), none, false, .mov (.k (.d (.int .i64 (-1))))⟩])
 .ret)
 .skip))
 (.reg false [0, 1, 5] [⟨(some 64), none, false, .mov (.t 1)⟩,
 ⟨(some 65), none, false, .bin .add (.t 64) (.k (.d (.int .i64 1)))⟩,
 ⟨(some 1), none, false, .mov (.t 65)⟩])))))))))))))
 (.reg false [0, 1, 5] [⟨(some 10), none, false, .mov (.t 5)⟩,
 ⟨(some 11), none, false, .bin .add (.t 10) (.k (.d (.int .i64 1)))⟩,
 ⟨(some 5), none, false, .mov (.t 11)⟩]))))))
 (.seq
 (.reg false [4] [⟨(some 66), none, false, .mov (.t 1)⟩,
 ⟨(some 4), none, false, .mov (.t 66)⟩])
 .ret)))
theorem c11 : (Go.Proofs.Try.f11).body.bind (comp prog.P (1, (Go.Proofs.Try.f11).ntmps) lv11) = some m11 := by kernel_rfl
theorem r11 : resOK prog.P (Go.Proofs.Try.f11).results.toList = true := by kernel_rfl

/-- laws.eqIntS -/
def lv14 : List (Nat × List Nat) := [(0, [0, 1]), (1, [0, 1, 10]), (2, [4]), (3, [0, 1, 5]), (4, [0, 1, 5, 14]), (5, [0, 1, 5]), (6, [0, 1, 5, 25]), (7, [4]), (8, [4])]
def m14 : MC :=
  (.seq
 (.reg false [0, 1] [⟨(some 4), none, false, .mov (.k (.d (.bool false)))⟩])
 (.seq
 (.seq
 (.reg false [0, 1, 10] [⟨(some 6), none, false, .mov (.t 0)⟩,
 ⟨(some 7), none, false, .len false (.t 6)⟩,
 ⟨(some 8), none, false, .mov (.t 1)⟩,
 ⟨(some 9), none, false, .len false (.t 8)⟩,
 ⟨(some 10), none, false, .bin .neq (.t 7) (.t 9)⟩])
 (.cond (.t 10)
 (.seq
 (.reg false [4] [⟨(some 4), none, false, .mov (.k (.d (.bool false)))⟩])
 .ret)
 .skip))
 (.seq
 (.seq
 (.reg false [0, 1, 5] [⟨(some 5), none, false, .mov (.k (.d (.int .i64 0)))⟩])
 (.block 0
 (.loop
 (.seq
 (.seq
 (.reg false [0, 1, 5, 14] [⟨(some 11), none, false, .mov (.t 5)⟩,
 ⟨(some 12), none, false, .mov (.t 0)⟩,
 ⟨(some 13), none, false, .len false (.t 12)⟩,
 ⟨(some 14), none, false, .bin .lss (.t 11) (.t 13)⟩])
 (.cond (.t 14)
 .skip
 (.exit 0)))
 (.seq
 (.block 1
 (.seq
 (.reg true [0, 1, 5, 25] [⟨(some 17), none, false, .mov (.t 0)⟩,
 ⟨(some 18), none, false, .mov (.t 5)⟩,
 ⟨(some 19), none, false, .ia 1 (.t 17) (.t 18)⟩,
 ⟨(some 20), none, false, .ld none (.t 19)⟩,
 ⟨(some 21), none, false, .mov (.t 1)⟩,
 ⟨(some 22), none, false, .mov (.t 5)⟩,
 ⟨(some 23), none, false, .ia 1 (.t 21) (.t 22)⟩,
 ⟨(some 24), none, false, .ld none (.t 23)⟩,
 ⟨(some 25), none, false, .bin .neq (.t 20) (.t 24)⟩])
 (.cond (.t 25)
 (.seq
 (.reg false [4] [⟨(some 4), none, false, .mov (.k (.d (.bool false)))⟩])
 .ret)
 .skip)))
 (.reg false [0, 1, 5] [⟨(some 15), none, false, .mov (.t 5)⟩,
 ⟨(some 16), none, false, .bin .add (.t 15) (.k (.d (.int .i64 1)))⟩,
 ⟨(some 5), none, false, .mov (.t 16)⟩]))))))
 (.seq
 (.reg false [4] [⟨(some 4), none, false, .mov (.k (.d (.bool true)))⟩])
 .ret))))
theorem c14 : (Go.Proofs.Try.f14).body.bind (comp prog.P (2, (Go.Proofs.Try.f14).ntmps) lv14) = some m14 := by kernel_rfl
theorem r14 : resOK prog.P (Go.Proofs.Try.f14).results.toList = true := by kernel_rfl

/-- laws.markIntS -/
def lv15 : List (Nat × List Nat) := [(0, [0, 1]), (1, [0, 1, 5]), (2, [0, 1, 5, 9]), (3, [0, 1, 5]), (4, [0, 1, 5]), (5, [0, 1, 5]), (6, [0, 4])]
def m15 : MC :=
  (.seq
 (.reg false [0, 1] [⟨(some 4), none, false, .mov (.k (.d (.int .i64 0)))⟩])
 (.seq
 (.seq
 (.reg false [0, 1, 5] [⟨(some 5), none, false, .mov (.k (.d (.int .i64 0)))⟩])
 (.block 0
 (.loop
 (.seq
 (.seq
 (.reg false [0, 1, 5, 9] [⟨(some 6), none, false, .mov (.t 5)⟩,
 ⟨(some 7), none, false, .mov (.t 0)⟩,
 ⟨(some 8), none, false, .len false (.t 7)⟩,
 ⟨(some 9), none, false, .bin .lss (.t 6) (.t 8)⟩])
 (.cond (.t 9)
 .skip
 (.exit 0)))
 (.seq
 (.block 1
 (.seq
 (.reg false [0, 1, 5] [⟨(some 12), none, false, .mov (.t 0)⟩,
 ⟨(some 13), none, false, .mov (.t 5)⟩,
 ⟨(some 14), none, false, .mov (.t 1)⟩,
 ⟨(some 15), none, false, .ia 1 (.t 12) (.t 13)⟩,
 ⟨none, none, true, .st 1 (.t 15) (.t 14)⟩])
 (.reg false [0, 1, 5] [⟨(some 16), none, false, .mov (.t 1)⟩,
 ⟨(some 17), none, false, .bin .add (.t 16) (.k (.d (.int .i64 1)))⟩,
 ⟨(some 1), none, false, .mov (.t 17)⟩])))
 (.reg false [0, 1, 5] [⟨(some 10), none, false, .mov (.t 5)⟩,
 ⟨(some 11), none, false, .bin .add (.t 10) (.k (.d (.int .i64 1)))⟩,
 ⟨(some 5), none, false, .mov (.t 11)⟩]))))))
 (.seq
 (.reg false [0, 4] [⟨(some 18), none, false, .mov (.t 1)⟩,
 ⟨(some 4), none, false, .mov (.t 18)⟩])
 .ret)))
theorem c15 : (Go.Proofs.Try.f15).body.bind (comp prog.P (1, (Go.Proofs.Try.f15).ntmps) lv15) = some m15 := by kernel_rfl
theorem r15 : resOK prog.P (Go.Proofs.Try.f15).results.toList = true := by kernel_rfl

/-- laws.heldIntS -/
def lv16 : List (Nat × List Nat) := [(0, [0, 1]), (1, [0, 1, 5]), (2, [0, 1, 5, 9]), (3, [0, 1, 5]), (4, [0, 1, 5, 17]), (5, [4]), (6, [0, 1, 5]), (7, [4])]
def m16 : MC :=
  (.seq
 (.reg false [0, 1] [⟨(some 4), none, false, .mov (.k (.d (.int .i64 0)))⟩])
 (.seq
 (.seq
 (.reg false [0, 1, 5] [⟨(some 5), none, false, .mov (.k (.d (.int .i64 0)))⟩])
 (.block 0
 (.loop
 (.seq
 (.seq
 (.reg false [0, 1, 5, 9] [⟨(some 6), none, false, .mov (.t 5)⟩,
 ⟨(some 7), none, false, .mov (.t 0)⟩,
 ⟨(some 8), none, false, .len false (.t 7)⟩,
 ⟨(some 9), none, false, .bin .lss (.t 6) (.t 8)⟩])
 (.cond (.t 9)
 .skip
 (.exit 0)))
 (.seq
 (.block 1
 (.seq
 (.seq
 (.reg false [0, 1, 5, 17] [⟨(some 12), none, false, .mov (.t 0)⟩,
 ⟨(some 13), none, false, .mov (.t 5)⟩,
 ⟨(some 14), none, false, .ia 1 (.t 12) (.t 13)⟩,
 ⟨(some 15), none, false, .ld none (.t 14)⟩,
 ⟨(some 16), none, false, .mov (.t 1)⟩,
 ⟨(some 17), none, false, .bin .neq (.t 15) (.t 16)⟩])
 (.cond (.t 17)
 (.seq
 (.reg false [4] [⟨(some 4), none, false, .mov (.k (.d (.int .i64 (-1))))⟩])
 .ret)
 .skip))
 (.reg false [0, 1, 5] [⟨(some 18), none, false, .mov (.t 1)⟩,
 ⟨(some 19), none, false, .bin .add (.t 18) (.k (.d (.int .i64 1)))⟩,
 ⟨(some 1), none, false, .mov (.t 19)⟩])))
 (.reg false [0, 1, 5] [⟨(some 10), none, false, .mov (.t 5)⟩,
 ⟨(some 11), none, false, .bin .add (.t 10) (.k (.d (.int .i64 1)))⟩,
 ⟨(some 5), none, false, .mov (.t 11)⟩]))))))
 (.seq
 (.reg false [4] [⟨(some 20), none, false, .mov (.t 1)⟩,
 ⟨(some 4), none, false, .mov (.t 20)⟩])
 .ret)))
theorem c16 : (Go.Proofs.Try.f16).body.bind (comp prog.P (1, (Go.Proofs.Try.f16).ntmps) lv16) = some m16 := by kernel_rfl
theorem r16 : resOK prog.P (Go.Proofs.Try.f16).results.toList = true := by kernel_rfl

/-- laws.szAppeal -/
def lv17 : List (Nat × List Nat) := [(0, [1, 2]), (1, [1, 2]), (2, [1, 2, 10]), (3, [4]), (4, [1]), (5, [1, 16]), (6, [4]), (7, [4])]
def m17 : MC :=
  (.seq
 (.reg false [1, 2] [⟨(some 2), none, true, .box (.t 0)⟩,
 ⟨(some 4), none, false, .mov (.k (.d (.int .i64 0)))⟩])
 (.seq
 (.reg false [1, 2] [⟨(some 5), none, false, .fa 3 3 (.t 2)⟩,
 ⟨(some 6), none, false, .ld none (.t 5)⟩,
 ⟨(some 7), none, false, .mov (.t 1)⟩,
 ⟨(some 8), none, true, .call 35 [(.t 6), (.t 7)]⟩,
 ⟨(some 1), none, false, .mov (.t 8)⟩])
 (.seq
 (.seq
 (.reg false [1, 2, 10] [⟨(some 9), none, false, .mov (.t 1)⟩,
 ⟨(some 10), none, false, .bin .lss (.t 9) (.k (.d (.int .i64 0)))⟩])
 (.cond (.t 10)
 (.seq
 (.reg false [4] [⟨(some 4), none, false, .mov (.k (.d (.int .i64 (-1))))⟩])
 .ret)
 .skip))
 (.seq
 (.reg false [1] [⟨(some 11), none, false, .fa 4 4 (.t 2)⟩,
 ⟨(some 12), none, false, .ld none (.t 11)⟩,
 ⟨(some 13), none, false, .mov (.t 1)⟩,
 ⟨(some 14), none, true, .call 35 [(.t 12), (.t 13)]⟩,
 ⟨(some 1), none, false, .mov (.t 14)⟩])
 (.seq
 (.seq
 (.reg false [1, 16] [⟨(some 15), none, false, .mov (.t 1)⟩,
 ⟨(some 16), none, false, .bin .lss (.t 15) (.k (.d (.int .i64 0)))⟩])
 (.cond (.t 16)
 (.seq
 (.reg false [4] [⟨(some 4), none, false, .mov (.k (.d (.int .i64 (-1))))⟩])
 .ret)
 .skip))
 (.seq
 (.reg false [4] [⟨(some 17), none, false, .mov (.t 1)⟩,
 ⟨(some 4), none, false, .mov (.t 17)⟩])
 .ret))))))
theorem c17 : (Go.Proofs.Try.f17).body.bind (comp prog.P (1, (Go.Proofs.Try.f17).ntmps) lv17) = some m17 := by kernel_rfl
theorem r17 : resOK prog.P (Go.Proofs.Try.f17).results.toList = true := by kernel_rfl

/-- spec.l24Find -/
def lv18 : List (Nat × List Nat) := [(0, [0, 1]), (1, [0, 1, 5]), (2, [0, 1, 5, 9]), (3, [0, 1, 5]), (4, [0, 1, 5, 18]), (5, [4]), (6, [4])]
def m18 : MC :=
  (.seq
 (.reg false [0, 1] [⟨(some 4), none, false, .mov (.k (.d (.int .i64 0)))⟩])
 (.seq
 (.seq
 (.reg false [0, 1, 5] [⟨(some 5), none, false, .mov (.k (.d (.int .i64 0)))⟩])
 (.block 0
 (.loop
 (.seq
 (.seq
 (.reg false [0, 1, 5, 9] [⟨(some 6), none, false, .mov (.t 5)⟩,
 ⟨(some 7), none, false, .mov (.t 0)⟩,
 ⟨(some 8), none, false, .len false (.t 7)⟩,
 ⟨(some 9), none, false, .bin .lss (.t 6) (.t 8)⟩])
 (.cond (.t 9)
 .skip
 (.exit 0)))
 (.seq
 (.block 1
 (.seq
 (.reg false [0, 1, 5, 18] [⟨(some 12), none, false, .mov (.t 0)⟩,
 ⟨(some 13), none, false, .mov (.t 5)⟩,
 ⟨(some 14), none, false, .ia 6 (.t 12) (.t 13)⟩,
 ⟨(some 15), none, false, .fa 0 0 (.t 14)⟩,
 ⟨(some 16), none, false, .ld none (.t 15)⟩,
 ⟨(some 17), none, false, .mov (.t 1)⟩,
 ⟨(some 18), none, false, .bin .eql (.t 16) (.t 17)⟩])
 (.cond (.t 18)
 (.seq
 (.reg false [4] [⟨(some 19), none, false, .mov (.t 5)⟩,
 ⟨(some 4), none, false, .mov (.t 19)⟩])
 .ret)
 .skip)))
 (.reg false [0, 1, 5] [⟨(some 10), none, false, .mov (.t 5)⟩,
 ⟨(some 11), none, false, .bin .add (.t 10) (.k (.d (.int .i64 1)))⟩,
 ⟨(some 5), none, false, .mov (.t 11)⟩]))))))
 (.seq
 (.reg false [4] [⟨(some 4), none, false, .mov (.k (.d (.int .i64 (-1))))⟩])
 .ret)))
theorem c18 : (Go.Proofs.Try.f18).body.bind (comp prog.P (2, (Go.Proofs.Try.f18).ntmps) lv18) = some m18 := by kernel_rfl
theorem r18 : resOK prog.P (Go.Proofs.Try.f18).results.toList = true := by kernel_rfl

/-- spec.l24Good -/
def lv19 : List (Nat × List Nat) := [(0, [0]), (1, [0, 3]), (2, [0, 3, 13]), (3, [0, 3]), (4, [0, 3, 4]), (5, [0, 3, 4, 37]), (6, [2]), (7, [0, 3, 4, 5]), (8, [0, 3, 4, 5, 40]), (9, [0, 3, 4, 5]), (10, [0, 3, 4, 5, 63]), (11, [2]), (12, [2])]
def m19 : MC :=
  (.seq
 (.reg false [0] [⟨(some 2), none, false, .mov (.k (.d (.bool false)))⟩])
 (.seq
 (.seq
 (.reg false [0, 3] [⟨(some 3), none, false, .mov (.k (.d (.int .i64 0)))⟩])
 (.block 0
 (.loop
 (.seq
 (.seq
 (.reg false [0, 3, 13] [⟨(some 6), none, false, .mov (.t 3)⟩,
 ⟨(some 7), none, false, .mov (.t 0)⟩,
 ⟨(some 8), none, false, .len false (.t 7)⟩,
 ⟨(some 9), none, false, .bin .lss (.t 6) (.t 8)⟩,
 ⟨(some 10), none, false, .mov (.t 9)⟩,
 ⟨(some 11), (some (10, true)), false, .mov (.t 3)⟩,
 ⟨(some 12), (some (10, true)), false, .bin .leq (.t 11) (.k (.d (.int .i64 10)))⟩,
 ⟨(some 13), none, false, .pick (.t 10) (.t 12) (.k (.d (.bool false)))⟩])
 (.cond (.t 13)
 .skip
 (.exit 0)))
 (.seq
 (.block 1
 (.seq
 (.reg false [0, 3, 4] [⟨(some 16), none, false, .mov (.t 0)⟩,
 ⟨(some 17), none, false, .mov (.t 3)⟩,
 ⟨(some 18), none, false, .ia 6 (.t 16) (.t 17)⟩,
 ⟨(some 19), none, false, .ld (some 6) (.t 18)⟩,
 ⟨(some 4), none, true, .alloc (.st (.cons (.int .i64 0) (.cons (.int .i64 0) (.cons (.int .i64 0) (.cons (.sl true 1 .nil) (.cons (.sl true 1 .nil) (.cons (.int .i64 0) .nil)))))))⟩,
 ⟨none, none, true, .st 6 (.t 4) (.t 19)⟩])
 (.seq
 (.seq
 (.reg true [0, 3, 4, 37] [⟨(some 20), none, false, .ld (some 6) (.t 4)⟩,
 ⟨(some 21), none, false, .callP 36 [(.t 20)]⟩,
 ⟨(some 22), none, false, .un .not (.t 21)⟩,
 ⟨(some 23), none, false, .mov (.t 22)⟩,
 ⟨(some 24), (some (23, false)), false, .mov (.t 3)⟩,
 ⟨(some 25), (some (23, false)), false, .bin .gtr (.t 24) (.k (.d (.int .i64 0)))⟩,
 ⟨(some 26), (some (23, false)), false, .mov (.t 25)⟩,
 ⟨(some 27), (some (26, true)), false, .mov (.t 0)⟩,
 ⟨(some 28), (some (26, true)), false, .mov (.t 3)⟩,
 ⟨(some 29), (some (26, true)), false, .bin .sub (.t 28) (.k (.d (.int .i64 1)))⟩,
 ⟨(some 30), (some (26, true)), false, .ia 6 (.t 27) (.t 29)⟩,
 ⟨(some 31), (some (26, true)), false, .fa 0 0 (.t 30)⟩,
 ⟨(some 32), (some (26, true)), false, .ld none (.t 31)⟩,
 ⟨(some 33), (some (26, true)), false, .fa 0 0 (.t 4)⟩,
 ⟨(some 34), (some (26, true)), false, .ld none (.t 33)⟩,
 ⟨(some 35), (some (26, true)), false, .bin .geq (.t 32) (.t 34)⟩,
 ⟨(some 36), (some (23, false)), false, .pick (.t 26) (.t 35) (.k (.d (.bool false)))⟩,
 ⟨(some 37), none, false, .pick (.t 23) (.k (.d (.bool true))) (.t 36)⟩])
 (.cond (.t 37)
 (.seq
 (.reg false [2] [⟨(some 2), none, false, .mov (.k (.d (.bool false)))⟩])
 .ret)
 .skip))
 (.seq
 (.reg false [0, 3, 4, 5] [⟨(some 5), none, false, .mov (.k (.d (.int .i64 0)))⟩])
 (.block 2
 (.loop
 (.seq
 (.seq
 (.reg false [0, 3, 4, 5, 40] [⟨(some 38), none, false, .mov (.t 5)⟩,
 ⟨(some 39), none, false, .mov (.t 3)⟩,
 ⟨(some 40), none, false, .bin .lss (.t 38) (.t 39)⟩])
 (.cond (.t 40)
 .skip
 (.exit 2)))
 (.seq
 (.block 3
 (.seq
 (.reg true [0, 3, 4, 5, 63] [⟨(some 43), none, false, .mov (.t 0)⟩,
 ⟨(some 44), none, false, .mov (.t 5)⟩,
 ⟨(some 45), none, false, .ia 6 (.t 43) (.t 44)⟩,
 ⟨(some 46), none, false, .fa 1 1 (.t 45)⟩,
 ⟨(some 47), none, false, .ld none (.t 46)⟩,
 ⟨(some 48), none, false, .fa 1 1 (.t 4)⟩,
 ⟨(some 49), none, false, .ld none (.t 48)⟩,
 ⟨(some 50), none, false, .bin .eql (.t 47) (.t 49)⟩,
 ⟨(some 51), none, false, .mov (.t 50)⟩,
 ⟨(some 52), (some (51, true)), false, .mov (.t 0)⟩,
 ⟨(some 53), (some (51, true)), false, .mov (.t 5)⟩,
 ⟨(some 54), (some (51, true)), false, .ia 6 (.t 52) (.t 53)⟩,
 ⟨(some 55), (some (51, true)), false, .fa 5 5 (.t 54)⟩,
 ⟨(some 56), (some (51, true)), false, .ld none (.t 55)⟩,
 ⟨(some 57), (some (51, true)), false, .bin .leq (.t 56) (.k (.d (.int .i64 1)))⟩,
 ⟨(some 58), none, false, .pick (.t 51) (.t 57) (.k (.d (.bool false)))⟩,
 ⟨(some 59), none, false, .mov (.t 58)⟩,
 ⟨(some 60), (some (59, true)), false, .fa 5 5 (.t 4)⟩,
 ⟨(some 61), (some (59, true)), false, .ld none (.t 60)⟩,
 ⟨(some 62), (some (59, true)), false, .bin .leq (.t 61) (.k (.d (.int .i64 1)))⟩,
 ⟨(some 63), none, false, .pick (.t 59) (.t 62) (.k (.d (.bool false)))⟩])
 (.cond (.t 63)
 (.seq
 (.reg false [2] [⟨(some 2), none, false, .mov (.k (.d (.bool false)))⟩])
 .ret)
 .skip)))
 (.reg false [0, 3, 4, 5] [⟨(some 41), none, false, .mov (.t 5)⟩,
 ⟨(some 42), none, false, .bin .add (.t 41) (.k (.d (.int .i64 1)))⟩,
 ⟨(some 5), none, false, .mov (.t 42)⟩])))))))))
 (.reg false [0, 3] [⟨(some 14), none, false, .mov (.t 3)⟩,
 ⟨(some 15), none, false, .bin .add (.t 14) (.k (.d (.int .i64 1)))⟩,
 ⟨(some 3), none, false, .mov (.t 15)⟩]))))))
 (.seq
 (.reg false [2] [⟨(some 64), none, false, .mov (.t 0)⟩,
 ⟨(some 65), none, false, .len false (.t 64)⟩,
 ⟨(some 66), none, false, .bin .leq (.t 65) (.k (.d (.int .i64 10)))⟩,
 ⟨(some 2), none, false, .mov (.t 66)⟩])
 .ret)))
theorem c19 : (Go.Proofs.Try.f19).body.bind (comp prog.P (1, (Go.Proofs.Try.f19).ntmps) lv19) = some m19 := by kernel_rfl
theorem r19 : resOK prog.P (Go.Proofs.Try.f19).results.toList = true := by kernel_rfl

/-- spec.l1Has -/
def lv20 : List (Nat × List Nat) := [(0, [0, 1]), (1, [0, 1, 5]), (2, [0, 1, 5, 9]), (3, [0, 1, 5]), (4, [0, 1, 5, 17]), (5, [4]), (6, [4])]
def m20 : MC :=
  (.seq
 (.reg false [0, 1] [⟨(some 4), none, false, .mov (.k (.d (.bool false)))⟩])
 (.seq
 (.seq
 (.reg false [0, 1, 5] [⟨(some 5), none, false, .mov (.k (.d (.int .i64 0)))⟩])
 (.block 0
 (.loop
 (.seq
 (.seq
 (.reg false [0, 1, 5, 9] [⟨(some 6), none, false, .mov (.t 5)⟩,
 ⟨(some 7), none, false, .mov (.t 0)⟩,
 ⟨(some 8), none, false, .len false (.t 7)⟩,
 ⟨(some 9), none, false, .bin .lss (.t 6) (.t 8)⟩])
 (.cond (.t 9)
 .skip
 (.exit 0)))
 (.seq
 (.block 1
 (.seq
 (.reg false [0, 1, 5, 17] [⟨(some 12), none, false, .mov (.t 0)⟩,
 ⟨(some 13), none, false, .mov (.t 5)⟩,
 ⟨(some 14), none, false, .ia 1 (.t 12) (.t 13)⟩,
 ⟨(some 15), none, false, .ld none (.t 14)⟩,
 ⟨(some 16), none, false, .mov (.t 1)⟩,
 ⟨(some 17), none, false, .bin .eql (.t 15) (.t 16)⟩])
 (.cond (.t 17)
 (.seq
 (.reg false [4] [⟨(some 4), none, false, .mov (.k (.d (.bool true)))⟩])
 .ret)
 .skip)))
 (.reg false [0, 1, 5] [⟨(some 10), none, false, .mov (.t 5)⟩,
 ⟨(some 11), none, false, .bin .add (.t 10) (.k (.d (.int .i64 1)))⟩,
 ⟨(some 5), none, false, .mov (.t 11)⟩]))))))
 (.seq
 (.reg false [4] [⟨(some 4), none, false, .mov (.k (.d (.bool false)))⟩])
 .ret)))
theorem c20 : (Go.Proofs.Try.f20).body.bind (comp prog.P (2, (Go.Proofs.Try.f20).ntmps) lv20) = some m20 := by kernel_rfl
theorem r20 : resOK prog.P (Go.Proofs.Try.f20).results.toList = true := by kernel_rfl

/-- spec.l24Own -/
def lv21 : List (Nat × List Nat) := [(0, [0]), (1, [0, 3]), (2, [0, 3, 4]), (3, [0, 3, 4, 10]), (4, [0, 3, 4]), (5, [0, 3, 4, 5]), (6, [0, 3, 4, 5]), (7, [0, 3, 4, 5]), (8, [0, 3, 4]), (9, [2])]
def m21 : MC :=
  (.seq
 (.reg false [0] [⟨(some 2), none, false, .mov (.k .nil)⟩])
 (.seq
 (.reg false [0, 3] [⟨(some 6), none, true, .bs 6 0 (.st (.cons (.int .i64 0) (.cons (.int .i64 0) (.cons (.int .i64 0) (.cons (.sl true 1 .nil) (.cons (.sl true 1 .nil) (.cons (.int .i64 0) .nil))))))) []⟩,
 ⟨(some 3), none, false, .mov (.t 6)⟩])
 (.seq
 (.seq
 (.reg false [0, 3, 4] [⟨(some 4), none, false, .mov (.k (.d (.int .i64 0)))⟩])
 (.block 0
 (.loop
 (.seq
 (.seq
 (.reg false [0, 3, 4, 10] [⟨(some 7), none, false, .mov (.t 4)⟩,
 ⟨(some 8), none, false, .mov (.t 0)⟩,
 ⟨(some 9), none, false, .len false (.t 8)⟩,
 ⟨(some 10), none, false, .bin .lss (.t 7) (.t 9)⟩])
 (.cond (.t 10)
 .skip
 (.exit 0)))
 (.seq
 (.block 1
 (.seq
 (.reg false [0, 3, 4, 5] [⟨(some 13), none, false, .mov (.t 0)⟩,
 ⟨(some 14), none, false, .mov (.t 4)⟩,
 ⟨(some 15), none, false, .ia 6 (.t 13) (.t 14)⟩,
 ⟨(some 16), none, false, .ld (some 6) (.t 15)⟩,
 ⟨(some 5), none, true, .alloc (.st (.cons (.int .i64 0) (.cons (.int .i64 0) (.cons (.int .i64 0) (.cons (.sl true 1 .nil) (.cons (.sl true 1 .nil) (.cons (.int .i64 0) .nil)))))))⟩,
 ⟨none, none, true, .st 6 (.t 5) (.t 16)⟩])
 (.seq
 (.reg false [0, 3, 4, 5] [⟨(some 17), none, false, .fa 3 3 (.t 5)⟩,
 ⟨(some 18), none, false, .ld none (.t 17)⟩,
 ⟨(some 19), none, true, .call 37 [(.t 18)]⟩,
 ⟨(some 20), none, false, .fa 3 3 (.t 5)⟩,
 ⟨none, none, true, .st 1 (.t 20) (.t 19)⟩])
 (.seq
 (.reg false [0, 3, 4, 5] [⟨(some 21), none, false, .fa 4 4 (.t 5)⟩,
 ⟨(some 22), none, false, .ld none (.t 21)⟩,
 ⟨(some 23), none, true, .call 37 [(.t 22)]⟩,
 ⟨(some 24), none, false, .fa 4 4 (.t 5)⟩,
 ⟨none, none, true, .st 1 (.t 24) (.t 23)⟩])
 (.reg false [0, 3, 4] [⟨(some 25), none, false, .mov (.t 3)⟩,
 ⟨(some 26), none, false, .ld (some 6) (.t 5)⟩,
 ⟨(some 27), none, true, .bs 6 1 (.st (.cons (.int .i64 0) (.cons (.int .i64 0) (.cons (.int .i64 0) (.cons (.sl true 1 .nil) (.cons (.sl true 1 .nil) (.cons (.int .i64 0) .nil))))))) [(0, (.t 26))]⟩,
 ⟨(some 28), none, true, .app 6 80 (.t 25) (.t 27)⟩,
 ⟨(some 3), none, false, .mov (.t 28)⟩])))))
 (.reg false [0, 3, 4] [⟨(some 11), none, false, .mov (.t 4)⟩,
 ⟨(some 12), none, false, .bin .add (.t 11) (.k (.d (.int .i64 1)))⟩,
 ⟨(some 4), none, false, .mov (.t 12)⟩]))))))
 (.seq
 (.reg false [2] [⟨(some 29), none, false, .mov (.t 3)⟩,
 ⟨(some 2), none, false, .mov (.t 29)⟩])
 .ret))))
theorem c21 : (Go.Proofs.Try.f21).body.bind (comp prog.P (1, (Go.Proofs.Try.f21).ntmps) lv21) = some m21 := by kernel_rfl
theorem r21 : resOK prog.P (Go.Proofs.Try.f21).results.toList = true := by kernel_rfl

/-- spec.l1Put -/
def lv22 : List (Nat × List Nat) := [(0, [0, 1]), (1, [0, 1, 5]), (2, [0, 1, 5, 17]), (3, [0, 1, 5]), (4, [0, 1, 5, 31]), (5, [4]), (6, [4]), (1000006, [0, 1, 1, 1, 2, 1, 3, 1, 5, 1, 8, 1, 9, 1, 10, 3, 2, 0, 3, 2, 4, 2, 6, 2, 7, 2, 11, 1, 12, 0, 2, 6, 2, 4, 2, 7, 2, 11, 1, 12, 0, 2, 6, 2, 0, 2, 4, 2, 7, 2, 11, 1, 12, 0])]
def m22 : MC :=
  (.seq
 (.reg false [0, 1] [⟨(some 4), none, false, .mov (.k .nil)⟩])
 (.seq
 (.reg false [0, 1, 5] [⟨(some 5), none, false, .mov (.k (.d (.int .i64 0)))⟩])
 (.seq
 (.block 0
 (.loop
 (.seq
 (.seq
 (.reg false [0, 1, 5, 17] [⟨(some 6), none, false, .mov (.t 5)⟩,
 ⟨(some 7), none, false, .mov (.t 0)⟩,
 ⟨(some 8), none, false, .len false (.t 7)⟩,
 ⟨(some 9), none, false, .bin .lss (.t 6) (.t 8)⟩,
 ⟨(some 10), none, false, .mov (.t 9)⟩,
 ⟨(some 11), (some (10, true)), false, .mov (.t 0)⟩,
 ⟨(some 12), (some (10, true)), false, .mov (.t 5)⟩,
 ⟨(some 13), (some (10, true)), false, .ia 1 (.t 11) (.t 12)⟩,
 ⟨(some 14), (some (10, true)), false, .ld none (.t 13)⟩,
 ⟨(some 15), (some (10, true)), false, .mov (.t 1)⟩,
 ⟨(some 16), (some (10, true)), false, .bin .lss (.t 14) (.t 15)⟩,
 ⟨(some 17), none, false, .pick (.t 10) (.t 16) (.k (.d (.bool false)))⟩])
 (.cond (.t 17)
 .skip
 (.exit 0)))
 (.block 1
 (.reg false [0, 1, 5] [⟨(some 18), none, false, .mov (.t 5)⟩,
 ⟨(some 19), none, false, .bin .add (.t 18) (.k (.d (.int .i64 1)))⟩,
 ⟨(some 5), none, false, .mov (.t 19)⟩])))))
 (.seq
 (.seq
 (.reg false [0, 1, 5, 31] [⟨(some 20), none, false, .mov (.t 5)⟩,
 ⟨(some 21), none, false, .mov (.t 0)⟩,
 ⟨(some 22), none, false, .len false (.t 21)⟩,
 ⟨(some 23), none, false, .bin .lss (.t 20) (.t 22)⟩,
 ⟨(some 24), none, false, .mov (.t 23)⟩,
 ⟨(some 25), (some (24, true)), false, .mov (.t 0)⟩,
 ⟨(some 26), (some (24, true)), false, .mov (.t 5)⟩,
 ⟨(some 27), (some (24, true)), false, .ia 1 (.t 25) (.t 26)⟩,
 ⟨(some 28), (some (24, true)), false, .ld none (.t 27)⟩,
 ⟨(some 29), (some (24, true)), false, .mov (.t 1)⟩,
 ⟨(some 30), (some (24, true)), false, .bin .eql (.t 28) (.t 29)⟩,
 ⟨(some 31), none, false, .pick (.t 24) (.t 30) (.k (.d (.bool false)))⟩])
 (.cond (.t 31)
 (.seq
 (.reg false [4] [⟨(some 32), none, false, .mov (.t 0)⟩,
 ⟨(some 4), none, false, .mov (.t 32)⟩])
 .ret)
 .skip))
 (.seq
 (.any [] [4] (.q 1 ⟨(some 34), none, false, .mov (.t 0)⟩ (.q 2 ⟨(some 35), none, false, .mov (.t 5)⟩ (.q 3 ⟨(some 36), none, false, .slx 1 (.t 34) none (some (.t 35))⟩ (.q 5 ⟨(some 38), none, false, .mov (.t 1)⟩ (.q 8 ⟨(some 41), none, false, .mov (.t 0)⟩ (.q 9 ⟨(some 42), none, false, .mov (.t 5)⟩ (.q 10 ⟨(some 43), none, false, .slx 1 (.t 41) (some (.t 42)) none⟩ (.br (.e 0 ⟨(some 33), none, true, .bs 1 0 (.int .i64 0) []⟩ (.br (.e 4 ⟨(some 37), none, true, .app 1 8 (.t 33) (.t 36)⟩ (.e 6 ⟨(some 39), none, true, .bs 1 1 (.int .i64 0) [(0, (.t 38))]⟩ (.e 7 ⟨(some 40), none, true, .app 1 8 (.t 37) (.t 39)⟩ (.e 11 ⟨(some 44), none, true, .app 1 8 (.t 40) (.t 43)⟩ (.q 12 ⟨(some 4), none, false, .mov (.t 44)⟩ .done)))))
 (.e 6 ⟨(some 39), none, true, .bs 1 1 (.int .i64 0) [(0, (.t 38))]⟩ (.e 4 ⟨(some 37), none, true, .app 1 8 (.t 33) (.t 36)⟩ (.e 7 ⟨(some 40), none, true, .app 1 8 (.t 37) (.t 39)⟩ (.e 11 ⟨(some 44), none, true, .app 1 8 (.t 40) (.t 43)⟩ (.q 12 ⟨(some 4), none, false, .mov (.t 44)⟩ .done)))))))
 (.e 6 ⟨(some 39), none, true, .bs 1 1 (.int .i64 0) [(0, (.t 38))]⟩ (.e 0 ⟨(some 33), none, true, .bs 1 0 (.int .i64 0) []⟩ (.e 4 ⟨(some 37), none, true, .app 1 8 (.t 33) (.t 36)⟩ (.e 7 ⟨(some 40), none, true, .app 1 8 (.t 37) (.t 39)⟩ (.e 11 ⟨(some 44), none, true, .app 1 8 (.t 40) (.t 43)⟩ (.q 12 ⟨(some 4), none, false, .mov (.t 44)⟩ .done)))))))))))))))
 .ret)))))
theorem c22 : (Go.Proofs.Try.f22).body.bind (comp prog.P (2, (Go.Proofs.Try.f22).ntmps) lv22) = some m22 := by kernel_rfl
theorem r22 : resOK prog.P (Go.Proofs.Try.f22).results.toList = true := by kernel_rfl

/-- laws.toAppeal -/
def lv23 : List (Nat × List Nat) := [(0, [1, 2]), (1, [1, 2, 3]), (2, [1, 2, 3]), (3, [1, 2, 3]), (4, [1, 2, 3]), (5, [1, 2, 3]), (6, [1, 2, 3]), (7, [2, 3]), (8, [2])]
def m23 : MC :=
  (.seq
 (.reg false [1, 2] [⟨(some 1), none, true, .box (.t 0)⟩,
 ⟨(some 2), none, true, .alloc (.st (.cons (.int .i64 0) (.cons (.int .i64 0) (.cons (.int .i64 0) (.cons (.sl true 1 .nil) (.cons (.sl true 1 .nil) (.cons (.int .i64 0) .nil)))))))⟩])
 (.seq
 (.reg false [1, 2, 3] [⟨(some 3), none, true, .alloc (.st (.cons (.int .i64 0) (.cons (.int .i64 0) (.cons (.int .i64 0) (.cons (.sl true 1 .nil) (.cons (.sl true 1 .nil) (.cons (.int .i64 0) .nil)))))))⟩])
 (.seq
 (.reg false [1, 2, 3] [⟨(some 4), none, false, .fa 0 0 (.t 1)⟩,
 ⟨(some 5), none, false, .ld none (.t 4)⟩,
 ⟨(some 6), none, false, .fa 0 0 (.t 3)⟩,
 ⟨none, none, true, .st 1 (.t 6) (.t 5)⟩])
 (.seq
 (.reg false [1, 2, 3] [⟨(some 7), none, false, .fa 1 1 (.t 1)⟩,
 ⟨(some 8), none, false, .ld none (.t 7)⟩,
 ⟨(some 9), none, false, .fa 1 1 (.t 3)⟩,
 ⟨none, none, true, .st 1 (.t 9) (.t 8)⟩])
 (.seq
 (.reg false [1, 2, 3] [⟨(some 10), none, false, .fa 2 2 (.t 1)⟩,
 ⟨(some 11), none, false, .ld none (.t 10)⟩,
 ⟨(some 12), none, false, .fa 2 2 (.t 3)⟩,
 ⟨none, none, true, .st 1 (.t 12) (.t 11)⟩])
 (.seq
 (.reg false [1, 2, 3] [⟨(some 13), none, false, .fa 3 3 (.t 1)⟩,
 ⟨(some 14), none, false, .ld none (.t 13)⟩,
 ⟨(some 15), none, true, .call 38 [(.t 14)]⟩,
 ⟨(some 16), none, false, .fa 3 3 (.t 3)⟩,
 ⟨none, none, true, .st 1 (.t 16) (.t 15)⟩])
 (.seq
 (.reg false [1, 2, 3] [⟨(some 17), none, false, .fa 4 4 (.t 1)⟩,
 ⟨(some 18), none, false, .ld none (.t 17)⟩,
 ⟨(some 19), none, true, .call 38 [(.t 18)]⟩,
 ⟨(some 20), none, false, .fa 4 4 (.t 3)⟩,
 ⟨none, none, true, .st 1 (.t 20) (.t 19)⟩])
 (.seq
 (.reg false [2, 3] [⟨(some 21), none, false, .fa 5 5 (.t 1)⟩,
 ⟨(some 22), none, false, .ld none (.t 21)⟩,
 ⟨(some 23), none, false, .fa 5 5 (.t 3)⟩,
 ⟨none, none, true, .st 1 (.t 23) (.t 22)⟩])
 (.seq
 (.reg false [2] [⟨(some 24), none, false, .ld (some 6) (.t 3)⟩,
 ⟨none, none, true, .st 6 (.t 2) (.t 24)⟩])
 .ret)))))))))
theorem c23 : (Go.Proofs.Try.f23).body.bind (comp prog.P (1, (Go.Proofs.Try.f23).ntmps) lv23) = some m23 := by kernel_rfl
theorem r23 : resOK prog.P (Go.Proofs.Try.f23).results.toList = true := by kernel_rfl

/-- impl.appealAt -/
def lv24 : List (Nat × List Nat) := [(0, [0, 3]), (1, [4])]
def m24 : MC :=
  (.seq
 (.reg false [0, 3] [⟨(some 3), none, true, .box (.t 1)⟩,
 ⟨(some 4), none, false, .mov (.k (.d (.int .i64 0)))⟩])
 (.seq
 (.reg false [4] [⟨(some 5), none, false, .mov (.t 0)⟩,
 ⟨(some 6), none, false, .clos 40 [(.t 3)]⟩,
 ⟨(some 7), none, true, .call 39 [(.t 5), (.t 6)]⟩,
 ⟨(some 4), none, false, .mov (.t 7)⟩])
 .ret))
theorem c24 : (Go.Proofs.Try.f24).body.bind (comp prog.P (2, (Go.Proofs.Try.f24).ntmps) lv24) = some m24 := by kernel_rfl
theorem r24 : resOK prog.P (Go.Proofs.Try.f24).results.toList = true := by kernel_rfl

end Go.Pe.Try
