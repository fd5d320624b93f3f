/-
The compact code of the functions that the law reaches, printed by gen.py, each with the proof that the machine's code is compiled to it.
-/
import Derived.Test.YtfndpmdjidenpaaPeC
import Derived.Test.YtfndpmdjidenpaaProg
import Derived.KernelRfl
set_option maxRecDepth 100000
namespace Go.Pe.Try
open Go.Pe

/-- the program; of its start-up memory nothing is asked. -/
noncomputable def prog : PG := ⟨Go.Proofs.Try.prog, fun _ => True, fun _ _ _ _ h => h⟩

theorem sz64 : sizeOfT prog.P 64 = some 6 := by kernel_rfl

/-- laws.FnExactAreAppeals -/
def lv3 : List (Nat × List Nat) := [(0, [0]), (1, [0, 3]), (2, [0, 3]), (3, [0, 11]), (4, [2]), (5, [0, 4]), (6, [0, 4, 5]), (7, [0, 4, 5, 6]), (8, [0, 5, 21]), (9, [2]), (10, [26]), (11, [2]), (12, [2])]
def m3 : MC :=
  (.seq
 (.reg false [0] [⟨(some 2), none, false, .mov (.k (.d (.bool false)))⟩])
 (.seq
 (.reg false [0, 3] [⟨(some 3), none, false, .mov (.k (.d (.int .i64 1048576)))⟩])
 (.seq
 (.reg false [0, 3] [⟨(some 7), none, false, .mov (.t 0)⟩,
 ⟨(some 8), none, false, .mov (.t 3)⟩,
 ⟨(some 9), none, true, .call 12 [(.t 7), (.t 8)]⟩,
 ⟨(some 3), none, false, .mov (.t 9)⟩])
 (.seq
 (.seq
 (.reg false [0, 11] [⟨(some 10), none, false, .mov (.t 3)⟩,
 ⟨(some 11), none, false, .bin .lss (.t 10) (.k (.d (.int .i64 0)))⟩])
 (.cond (.t 11)
 (.seq
 (.reg false [2] [⟨(some 2), none, false, .mov (.k (.d (.bool true)))⟩])
 .ret)
 .skip))
 (.seq
 (.reg false [0, 4] [⟨(some 12), none, false, .mov (.t 0)⟩,
 ⟨(some 13), none, true, .call 14 [(.t 12)]⟩,
 ⟨(some 14), none, true, .call 13 [(.t 13)]⟩,
 ⟨(some 4), none, false, .mov (.t 14)⟩])
 (.seq
 (.reg false [0, 4, 5] [⟨(some 15), none, false, .mov (.t 0)⟩,
 ⟨(some 16), none, true, .call 14 [(.t 15)]⟩,
 ⟨(some 5), none, false, .mov (.t 16)⟩])
 (.seq
 (.reg false [0, 4, 5, 6] [⟨(some 17), none, false, .mov (.t 5)⟩,
 ⟨(some 18), none, true, .call 15 [(.t 17)]⟩,
 ⟨(some 6), none, false, .mov (.t 18)⟩])
 (.seq
 (.seq
 (.reg false [0, 5, 21] [⟨(some 19), none, false, .mov (.t 6)⟩,
 ⟨(some 20), none, false, .mov (.t 4)⟩,
 ⟨(some 21), none, false, .bb .neq (.t 19) (.t 20)⟩])
 (.cond (.t 21)
 (.seq
 (.reg false [2] [⟨(some 2), none, false, .mov (.k (.d (.bool false)))⟩])
 .ret)
 .skip))
 (.seq
 (.seq
 (.reg false [26] [⟨(some 22), none, false, .mov (.t 5)⟩,
 ⟨(some 23), none, false, .mov (.t 0)⟩,
 ⟨(some 24), none, true, .call 14 [(.t 23)]⟩,
 ⟨(some 25), none, true, .call 16 [(.t 22), (.t 24)]⟩,
 ⟨(some 26), none, false, .un .not (.t 25)⟩])
 (.cond (.t 26)
 (.seq
 (.reg false [2] [⟨(some 2), none, false, .mov (.k (.d (.bool false)))⟩])
 .ret)
 .skip))
 (.seq
 (.reg false [2] [⟨(some 2), none, false, .mov (.k (.d (.bool true)))⟩])
 .ret))))))))))
theorem c3 : (Go.Proofs.Try.f3).body.bind (comp prog.P (1, (Go.Proofs.Try.f3).ntmps) lv3) = some m3 := by kernel_rfl
theorem r3 : resOK prog.P (Go.Proofs.Try.f3).results.toList = true := by kernel_rfl

/-- laws.FnExactNewAppeal -/
def lv9 : List (Nat × List Nat) := [(0, [0, 1, 2, 3]), (1, [0, 1, 2, 3, 26]), (2, [8]), (3, [0, 1, 2, 3, 9]), (4, [0, 1, 2, 3, 9]), (5, [0, 1, 2, 3, 31]), (6, [8]), (7, [0, 1, 2, 3, 10, 11, 12]), (8, [0, 1, 2, 3, 10, 11, 12, 13]), (9, [0, 1, 2, 3, 10, 11, 12, 13, 14]), (10, [0, 1, 2, 3, 10, 11, 12, 13, 14, 15, 16, 17]), (11, [0, 1, 2, 3, 10, 11, 12, 13, 14, 15, 16, 17, 69]), (12, [8]), (13, [0, 1, 2, 3, 10, 11, 12, 13, 14, 15, 16, 17, 74]), (14, [8]), (15, [0, 1, 2, 3, 10, 11, 12, 13, 14, 15, 16, 17, 79]), (16, [8]), (17, [0, 1, 2, 3, 10, 11, 12, 13, 14, 15, 16, 17, 18]), (18, [0, 1, 2, 3, 10, 11, 12, 14, 15, 16, 17, 18]), (19, [0, 1, 2, 3, 10, 11, 12, 15, 16, 17, 18]), (20, [0, 1, 2, 3, 10, 11, 12, 15, 103]), (21, [8]), (22, [0, 1, 2, 3, 10, 11, 12, 15, 19]), (23, [0, 1, 2, 3, 10, 11, 12, 15, 19]), (24, [0, 1, 2, 3, 10, 11, 12, 15, 19, 20]), (25, [0, 1, 2, 3, 10, 11, 12, 15, 19, 20]), (26, [0, 1, 2, 3, 10, 11, 12, 15, 19, 20, 111]), (27, [8]), (28, [0, 1, 2, 3, 10, 11, 12, 15, 19, 114]), (29, [8]), (30, [10, 11, 12, 15, 19, 21, 22, 23]), (31, [15, 19, 139]), (32, [8]), (33, [15, 19, 20]), (34, [19, 20]), (35, [19, 20, 144]), (36, [8]), (37, [147]), (38, [8]), (39, [8])]
def m9 : MC :=
  (.seq
 (.reg false [0, 1, 2, 3] [⟨(some 8), none, false, .mov (.k (.d (.bool false)))⟩])
 (.seq
 (.seq
 (.reg false [0, 1, 2, 3, 26] [⟨(some 24), none, false, .mov (.t 3)⟩,
 ⟨(some 25), none, false, .len false (.t 24)⟩,
 ⟨(some 26), none, false, .bin .gtr (.t 25) (.k (.d (.int .i64 1048576)))⟩])
 (.cond (.t 26)
 (.seq
 (.reg false [8] [⟨(some 8), none, false, .mov (.k (.d (.bool true)))⟩])
 .ret)
 .skip))
 (.seq
 (.reg false [0, 1, 2, 3, 9] [⟨(some 9), none, false, .mov (.k (.d (.int .i64 1048576)))⟩])
 (.seq
 (.reg false [0, 1, 2, 3, 9] [⟨(some 27), none, false, .mov (.t 0)⟩,
 ⟨(some 28), none, false, .mov (.t 9)⟩,
 ⟨(some 29), none, true, .call 12 [(.t 27), (.t 28)]⟩,
 ⟨(some 9), none, false, .mov (.t 29)⟩])
 (.seq
 (.seq
 (.reg false [0, 1, 2, 3, 31] [⟨(some 30), none, false, .mov (.t 9)⟩,
 ⟨(some 31), none, false, .bin .lss (.t 30) (.k (.d (.int .i64 0)))⟩])
 (.cond (.t 31)
 (.seq
 (.reg false [8] [⟨(some 8), none, false, .mov (.k (.d (.bool true)))⟩])
 .ret)
 .skip))
 (.seq
 (.reg false [0, 1, 2, 3, 10, 11, 12] [⟨(some 33), none, false, .mov (.t 0)⟩,
 ⟨(some 34), none, true, .call 14 [(.t 33)]⟩,
 ⟨(some 35), none, false, .mov (.t 1)⟩,
 ⟨(some 36), none, false, .mov (.t 2)⟩,
 ⟨(some 37), none, false, .mov (.t 3)⟩,
 ⟨(some 38), none, true, .call 33 [(.t 37)]⟩,
 ⟨(some 39), none, true, .call 32 [(.t 34), (.t 35), (.t 36), (.t 38)]⟩,
 ⟨(some 32), none, false, .mov (.t 39)⟩,
 ⟨(some 40), none, false, .ext (.t 32) 0⟩,
 ⟨(some 41), none, false, .ext (.t 32) 1⟩,
 ⟨(some 42), none, false, .ext (.t 32) 2⟩,
 ⟨(some 10), none, false, .mov (.t 40)⟩,
 ⟨(some 11), none, false, .mov (.t 41)⟩,
 ⟨(some 12), none, false, .mov (.t 42)⟩])
 (.seq
 (.reg false [0, 1, 2, 3, 10, 11, 12, 13] [⟨(some 43), none, false, .mov (.t 0)⟩,
 ⟨(some 44), none, true, .call 14 [(.t 43)]⟩,
 ⟨(some 13), none, false, .mov (.t 44)⟩])
 (.seq
 (.reg false [0, 1, 2, 3, 10, 11, 12, 13, 14] [⟨(some 45), none, false, .mov (.t 3)⟩,
 ⟨(some 46), none, true, .call 33 [(.t 45)]⟩,
 ⟨(some 14), none, false, .mov (.t 46)⟩])
 (.seq
 (.reg false [0, 1, 2, 3, 10, 11, 12, 13, 14, 15, 16, 17] [⟨(some 48), none, false, .mov (.t 13)⟩,
 ⟨(some 49), none, false, .mov (.t 1)⟩,
 ⟨(some 50), none, false, .mov (.t 2)⟩,
 ⟨(some 51), none, false, .mov (.t 14)⟩,
 ⟨(some 52), none, true, .call 34 [(.t 48), (.t 49), (.t 50), (.t 51)]⟩,
 ⟨(some 47), none, false, .mov (.t 52)⟩,
 ⟨(some 53), none, false, .ext (.t 47) 0⟩,
 ⟨(some 54), none, false, .ext (.t 47) 1⟩,
 ⟨(some 55), none, false, .ext (.t 47) 2⟩,
 ⟨(some 15), none, false, .mov (.t 53)⟩,
 ⟨(some 16), none, false, .mov (.t 54)⟩,
 ⟨(some 17), none, false, .mov (.t 55)⟩])
 (.seq
 (.seq
 (.reg false [0, 1, 2, 3, 10, 11, 12, 13, 14, 15, 16, 17, 69] [⟨(some 56), none, false, .mov (.t 15)⟩,
 ⟨(some 57), none, false, .mov (.t 10)⟩,
 ⟨(some 58), none, true, .call 16 [(.t 56), (.t 57)]⟩,
 ⟨(some 59), none, false, .un .not (.t 58)⟩,
 ⟨(some 60), none, false, .mov (.t 59)⟩,
 ⟨(some 61), (some (60, false)), false, .mov (.t 16)⟩,
 ⟨(some 62), (some (60, false)), false, .mov (.t 11)⟩,
 ⟨(some 63), (some (60, false)), false, .bin .neq (.t 61) (.t 62)⟩,
 ⟨(some 64), none, false, .pick (.t 60) (.k (.d (.bool true))) (.t 63)⟩,
 ⟨(some 65), none, false, .mov (.t 64)⟩,
 ⟨(some 66), (some (65, false)), false, .mov (.t 17)⟩,
 ⟨(some 67), (some (65, false)), false, .mov (.t 12)⟩,
 ⟨(some 68), (some (65, false)), false, .bb .neq (.t 66) (.t 67)⟩,
 ⟨(some 69), none, false, .pick (.t 65) (.k (.d (.bool true))) (.t 68)⟩])
 (.cond (.t 69)
 (.seq
 (.reg false [8] [⟨(some 8), none, false, .mov (.k (.d (.bool false)))⟩])
 .ret)
 .skip))
 (.seq
 (.seq
 (.reg false [0, 1, 2, 3, 10, 11, 12, 13, 14, 15, 16, 17, 74] [⟨(some 70), none, false, .mov (.t 13)⟩,
 ⟨(some 71), none, false, .mov (.t 0)⟩,
 ⟨(some 72), none, true, .call 14 [(.t 71)]⟩,
 ⟨(some 73), none, true, .call 16 [(.t 70), (.t 72)]⟩,
 ⟨(some 74), none, false, .un .not (.t 73)⟩])
 (.cond (.t 74)
 (.seq
 (.reg false [8] [⟨(some 8), none, false, .mov (.k (.d (.bool false)))⟩])
 .ret)
 .skip))
 (.seq
 (.seq
 (.reg false [0, 1, 2, 3, 10, 11, 12, 13, 14, 15, 16, 17, 79] [⟨(some 75), none, false, .mov (.t 14)⟩,
 ⟨(some 76), none, false, .mov (.t 3)⟩,
 ⟨(some 77), none, true, .call 33 [(.t 76)]⟩,
 ⟨(some 78), none, true, .call 25 [(.t 75), (.t 77)]⟩,
 ⟨(some 79), none, false, .un .not (.t 78)⟩])
 (.cond (.t 79)
 (.seq
 (.reg false [8] [⟨(some 8), none, false, .mov (.k (.d (.bool false)))⟩])
 .ret)
 .skip))
 (.seq
 (.reg false [0, 1, 2, 3, 10, 11, 12, 13, 14, 15, 16, 17, 18] [⟨(some 18), none, false, .mov (.k (.d (.int .i64 1)))⟩])
 (.seq
 (.reg false [0, 1, 2, 3, 10, 11, 12, 14, 15, 16, 17, 18] [⟨(some 80), none, false, .mov (.t 13)⟩,
 ⟨(some 81), none, false, .mov (.t 18)⟩,
 ⟨(some 82), none, true, .call 26 [(.t 80), (.t 81)]⟩,
 ⟨(some 18), none, false, .mov (.t 82)⟩])
 (.seq
 (.reg false [0, 1, 2, 3, 10, 11, 12, 15, 16, 17, 18] [⟨(some 83), none, false, .mov (.t 14)⟩,
 ⟨(some 84), none, false, .mov (.t 18)⟩,
 ⟨(some 85), none, true, .call 27 [(.t 83), (.t 84)]⟩,
 ⟨(some 18), none, false, .mov (.t 85)⟩])
 (.seq
 (.seq
 (.reg false [0, 1, 2, 3, 10, 11, 12, 15, 103] [⟨(some 86), none, false, .mov (.t 18)⟩,
 ⟨(some 87), none, false, .bin .lss (.t 86) (.k (.d (.int .i64 0)))⟩,
 ⟨(some 88), none, false, .mov (.t 87)⟩,
 ⟨(some 89), (some (88, false)), false, .mov (.t 15)⟩,
 ⟨(some 90), (some (88, false)), false, .mov (.t 10)⟩,
 ⟨(some 91), (some (88, false)), true, .call 16 [(.t 89), (.t 90)]⟩,
 ⟨(some 92), (some (88, false)), false, .un .not (.t 91)⟩,
 ⟨(some 93), none, false, .pick (.t 88) (.k (.d (.bool true))) (.t 92)⟩,
 ⟨(some 94), none, false, .mov (.t 93)⟩,
 ⟨(some 95), (some (94, false)), false, .mov (.t 16)⟩,
 ⟨(some 96), (some (94, false)), false, .mov (.t 11)⟩,
 ⟨(some 97), (some (94, false)), false, .bin .neq (.t 95) (.t 96)⟩,
 ⟨(some 98), none, false, .pick (.t 94) (.k (.d (.bool true))) (.t 97)⟩,
 ⟨(some 99), none, false, .mov (.t 98)⟩,
 ⟨(some 100), (some (99, false)), false, .mov (.t 17)⟩,
 ⟨(some 101), (some (99, false)), false, .mov (.t 12)⟩,
 ⟨(some 102), (some (99, false)), false, .bb .neq (.t 100) (.t 101)⟩,
 ⟨(some 103), none, false, .pick (.t 99) (.k (.d (.bool true))) (.t 102)⟩])
 (.cond (.t 103)
 (.seq
 (.reg false [8] [⟨(some 8), none, false, .mov (.k (.d (.bool false)))⟩])
 .ret)
 .skip))
 (.seq
 (.reg false [0, 1, 2, 3, 10, 11, 12, 15, 19] [⟨(some 19), none, false, .mov (.k (.d (.int .i64 1)))⟩])
 (.seq
 (.reg false [0, 1, 2, 3, 10, 11, 12, 15, 19] [⟨(some 104), none, false, .mov (.t 15)⟩,
 ⟨(some 105), none, false, .mov (.t 19)⟩,
 ⟨(some 106), none, true, .call 26 [(.t 104), (.t 105)]⟩,
 ⟨(some 19), none, false, .mov (.t 106)⟩])
 (.seq
 (.reg false [0, 1, 2, 3, 10, 11, 12, 15, 19, 20] [⟨(some 20), none, false, .mov (.k (.d (.int .i64 1)))⟩])
 (.seq
 (.reg false [0, 1, 2, 3, 10, 11, 12, 15, 19, 20] [⟨(some 107), none, false, .mov (.t 15)⟩,
 ⟨(some 108), none, false, .mov (.t 20)⟩,
 ⟨(some 109), none, true, .call 31 [(.t 107), (.t 108)]⟩,
 ⟨(some 20), none, false, .mov (.t 109)⟩])
 (.seq
 (.seq
 (.reg false [0, 1, 2, 3, 10, 11, 12, 15, 19, 20, 111] [⟨(some 110), none, false, .mov (.t 20)⟩,
 ⟨(some 111), none, false, .bin .lss (.t 110) (.k (.d (.int .i64 0)))⟩])
 (.cond (.t 111)
 (.seq
 (.reg false [8] [⟨(some 8), none, false, .mov (.k (.d (.bool false)))⟩])
 .ret)
 .skip))
 (.seq
 (.seq
 (.reg false [0, 1, 2, 3, 10, 11, 12, 15, 19, 114] [⟨(some 112), none, false, .mov (.t 20)⟩,
 ⟨(some 113), none, false, .mov (.t 19)⟩,
 ⟨(some 114), none, false, .bin .neq (.t 112) (.t 113)⟩])
 (.cond (.t 114)
 (.seq
 (.reg false [8] [⟨(some 8), none, false, .mov (.k (.d (.bool false)))⟩])
 .ret)
 .skip))
 (.seq
 (.reg false [10, 11, 12, 15, 19, 21, 22, 23] [⟨(some 116), none, false, .mov (.t 0)⟩,
 ⟨(some 117), none, true, .call 14 [(.t 116)]⟩,
 ⟨(some 118), none, false, .mov (.t 1)⟩,
 ⟨(some 119), none, false, .mov (.t 2)⟩,
 ⟨(some 120), none, false, .mov (.t 3)⟩,
 ⟨(some 121), none, true, .call 33 [(.t 120)]⟩,
 ⟨(some 122), none, true, .call 34 [(.t 117), (.t 118), (.t 119), (.t 121)]⟩,
 ⟨(some 115), none, false, .mov (.t 122)⟩,
 ⟨(some 123), none, false, .ext (.t 115) 0⟩,
 ⟨(some 124), none, false, .ext (.t 115) 1⟩,
 ⟨(some 125), none, false, .ext (.t 115) 2⟩,
 ⟨(some 21), none, false, .mov (.t 123)⟩,
 ⟨(some 22), none, false, .mov (.t 124)⟩,
 ⟨(some 23), none, false, .mov (.t 125)⟩])
 (.seq
 (.seq
 (.reg false [15, 19, 139] [⟨(some 126), none, false, .mov (.t 21)⟩,
 ⟨(some 127), none, false, .mov (.t 10)⟩,
 ⟨(some 128), none, true, .call 16 [(.t 126), (.t 127)]⟩,
 ⟨(some 129), none, false, .un .not (.t 128)⟩,
 ⟨(some 130), none, false, .mov (.t 129)⟩,
 ⟨(some 131), (some (130, false)), false, .mov (.t 22)⟩,
 ⟨(some 132), (some (130, false)), false, .mov (.t 11)⟩,
 ⟨(some 133), (some (130, false)), false, .bin .neq (.t 131) (.t 132)⟩,
 ⟨(some 134), none, false, .pick (.t 130) (.k (.d (.bool true))) (.t 133)⟩,
 ⟨(some 135), none, false, .mov (.t 134)⟩,
 ⟨(some 136), (some (135, false)), false, .mov (.t 23)⟩,
 ⟨(some 137), (some (135, false)), false, .mov (.t 12)⟩,
 ⟨(some 138), (some (135, false)), false, .bb .neq (.t 136) (.t 137)⟩,
 ⟨(some 139), none, false, .pick (.t 135) (.k (.d (.bool true))) (.t 138)⟩])
 (.cond (.t 139)
 (.seq
 (.reg false [8] [⟨(some 8), none, false, .mov (.k (.d (.bool false)))⟩])
 .ret)
 .skip))
 (.seq
 (.reg false [15, 19, 20] [⟨(some 20), none, false, .mov (.k (.d (.int .i64 1)))⟩])
 (.seq
 (.reg false [19, 20] [⟨(some 140), none, false, .mov (.t 15)⟩,
 ⟨(some 141), none, false, .mov (.t 20)⟩,
 ⟨(some 142), none, true, .call 31 [(.t 140), (.t 141)]⟩,
 ⟨(some 20), none, false, .mov (.t 142)⟩])
 (.seq
 (.seq
 (.reg false [19, 20, 144] [⟨(some 143), none, false, .mov (.t 20)⟩,
 ⟨(some 144), none, false, .bin .lss (.t 143) (.k (.d (.int .i64 0)))⟩])
 (.cond (.t 144)
 (.seq
 (.reg false [8] [⟨(some 8), none, false, .mov (.k (.d (.bool false)))⟩])
 .ret)
 .skip))
 (.seq
 (.seq
 (.reg false [147] [⟨(some 145), none, false, .mov (.t 20)⟩,
 ⟨(some 146), none, false, .mov (.t 19)⟩,
 ⟨(some 147), none, false, .bin .neq (.t 145) (.t 146)⟩])
 (.cond (.t 147)
 (.seq
 (.reg false [8] [⟨(some 8), none, false, .mov (.k (.d (.bool false)))⟩])
 .ret)
 .skip))
 (.seq
 (.reg false [8] [⟨(some 8), none, false, .mov (.k (.d (.bool true)))⟩])
 .ret)))))))))))))))))))))))))))))
theorem c9 : (Go.Proofs.Try.f9).body.bind (comp prog.P (4, (Go.Proofs.Try.f9).ntmps) lv9) = some m9 := by kernel_rfl
theorem r9 : resOK prog.P (Go.Proofs.Try.f9).results.toList = true := by kernel_rfl

/-- laws.szAppealS -/
def lv12 : List (Nat × List Nat) := [(0, [0, 1]), (1, [0, 1]), (2, [0, 1, 11]), (3, [4]), (4, [0, 1, 5]), (5, [0, 1, 5, 15]), (6, [0, 1, 5]), (7, [0, 1, 5]), (8, [0, 1, 5, 25]), (9, [4]), (10, [4])]
def m12 : MC :=
  (.seq
 (.reg false [0, 1] [⟨(some 4), none, false, .mov (.k (.d (.int .i64 0)))⟩])
 (.seq
 (.reg false [0, 1] [⟨(some 6), none, false, .mov (.t 1)⟩,
 ⟨(some 7), none, false, .mov (.t 0)⟩,
 ⟨(some 8), none, false, .len false (.t 7)⟩,
 ⟨(some 9), none, false, .bin .sub (.t 6) (.t 8)⟩,
 ⟨(some 1), none, false, .mov (.t 9)⟩])
 (.seq
 (.seq
 (.reg false [0, 1, 11] [⟨(some 10), none, false, .mov (.t 1)⟩,
 ⟨(some 11), none, false, .bin .lss (.t 10) (.k (.d (.int .i64 0)))⟩])
 (.cond (.t 11)
 (.seq
 (.reg false [4] [⟨(some 4), none, false, .mov (.k (.d (.int .i64 (-1))))⟩])
 .ret)
 .skip))
 (.seq
 (.seq
 (.reg false [0, 1, 5] [⟨(some 5), none, false, .mov (.k (.d (.int .i64 0)))⟩])
 (.block 0
 (.loop
 (.seq
 (.seq
 (.reg false [0, 1, 5, 15] [⟨(some 12), none, false, .mov (.t 5)⟩,
 ⟨(some 13), none, false, .mov (.t 0)⟩,
 ⟨(some 14), none, false, .len false (.t 13)⟩,
 ⟨(some 15), none, false, .bin .lss (.t 12) (.t 14)⟩])
 (.cond (.t 15)
 .skip
 (.exit 0)))
 (.seq
 (.block 1
 (.seq
 (.reg false [0, 1, 5] [⟨(some 18), none, false, .mov (.t 0)⟩,
 ⟨(some 19), none, false, .mov (.t 5)⟩,
 ⟨(some 20), none, false, .ia 6 (.t 18) (.t 19)⟩,
 ⟨(some 21), none, false, .ld (some 6) (.t 20)⟩,
 ⟨(some 22), none, false, .mov (.t 1)⟩,
 ⟨(some 23), none, true, .call 53 [(.t 21), (.t 22)]⟩,
 ⟨(some 1), none, false, .mov (.t 23)⟩])
 (.seq
 (.reg false [0, 1, 5, 25] [⟨(some 24), none, false, .mov (.t 1)⟩,
 ⟨(some 25), none, false, .bin .lss (.t 24) (.k (.d (.int .i64 0)))⟩])
 (.cond (.t 25)
 (.seq
 (.reg false [4] [⟨(some 4), none, false, .mov (.k (.d (.int .i64 (-1))))⟩])
 .ret)
 .skip))))
 (.reg false [0, 1, 5] [⟨(some 16), none, false, .mov (.t 5)⟩,
 ⟨(some 17), none, false, .bin .add (.t 16) (.k (.d (.int .i64 1)))⟩,
 ⟨(some 5), none, false, .mov (.t 17)⟩]))))))
 (.seq
 (.reg false [4] [⟨(some 26), none, false, .mov (.t 1)⟩,
 ⟨(some 4), none, false, .mov (.t 26)⟩])
 .ret)))))
theorem c12 : (Go.Proofs.Try.f12).body.bind (comp prog.P (1, (Go.Proofs.Try.f12).ntmps) lv12) = some m12 := by kernel_rfl
theorem r12 : resOK prog.P (Go.Proofs.Try.f12).results.toList = true := by kernel_rfl

/-- spec.AreAppeals -/
def lv13 : List (Nat × List Nat) := [(0, [0]), (1, [2])]
def m13 : MC :=
  (.seq
 (.reg false [0] [⟨(some 2), none, false, .mov (.k (.d (.bool false)))⟩])
 (.seq
 (.reg false [2] [⟨(some 3), none, false, .mov (.t 0)⟩,
 ⟨(some 4), none, true, .call 54 [(.t 3)]⟩,
 ⟨(some 2), none, false, .mov (.t 4)⟩])
 .ret))
theorem c13 : (Go.Proofs.Try.f13).body.bind (comp prog.P (1, (Go.Proofs.Try.f13).ntmps) lv13) = some m13 := by kernel_rfl
theorem r13 : resOK prog.P (Go.Proofs.Try.f13).results.toList = true := by kernel_rfl

/-- laws.toAppealS -/
def lv14 : List (Nat × List Nat) := [(0, [0]), (1, [0, 3]), (2, [0, 3, 4]), (3, [0, 3, 4, 11]), (4, [0, 3, 4]), (5, [0, 3, 4]), (6, [2])]
def m14 : MC :=
  (.seq
 (.reg false [0] [⟨(some 2), none, false, .mov (.k .nil)⟩])
 (.seq
 (.reg false [0, 3] [⟨(some 5), none, false, .mov (.t 0)⟩,
 ⟨(some 6), none, false, .len false (.t 5)⟩,
 ⟨(some 7), none, true, .mk 6 80 (.st (.cons (.int .i64 0) (.cons (.int .i64 0) (.cons (.int .i64 0) (.cons (.sl true 1 .nil) (.cons (.sl true 1 .nil) (.cons (.int .i64 0) .nil))))))) (.t 6)⟩,
 ⟨(some 3), none, false, .mov (.t 7)⟩])
 (.seq
 (.seq
 (.reg false [0, 3, 4] [⟨(some 4), none, false, .mov (.k (.d (.int .i64 0)))⟩])
 (.block 0
 (.loop
 (.seq
 (.seq
 (.reg false [0, 3, 4, 11] [⟨(some 8), none, false, .mov (.t 4)⟩,
 ⟨(some 9), none, false, .mov (.t 0)⟩,
 ⟨(some 10), none, false, .len false (.t 9)⟩,
 ⟨(some 11), none, false, .bin .lss (.t 8) (.t 10)⟩])
 (.cond (.t 11)
 .skip
 (.exit 0)))
 (.seq
 (.block 1
 (.reg false [0, 3, 4] [⟨(some 14), none, false, .mov (.t 3)⟩,
 ⟨(some 15), none, false, .mov (.t 4)⟩,
 ⟨(some 16), none, false, .mov (.t 0)⟩,
 ⟨(some 17), none, false, .mov (.t 4)⟩,
 ⟨(some 18), none, false, .ia 6 (.t 16) (.t 17)⟩,
 ⟨(some 19), none, false, .ld (some 6) (.t 18)⟩,
 ⟨(some 20), none, true, .call 55 [(.t 19)]⟩,
 ⟨(some 21), none, false, .ia 6 (.t 14) (.t 15)⟩,
 ⟨none, none, true, .st 6 (.t 21) (.t 20)⟩]))
 (.reg false [0, 3, 4] [⟨(some 12), none, false, .mov (.t 4)⟩,
 ⟨(some 13), none, false, .bin .add (.t 12) (.k (.d (.int .i64 1)))⟩,
 ⟨(some 4), none, false, .mov (.t 13)⟩]))))))
 (.seq
 (.reg false [2] [⟨(some 22), none, false, .mov (.t 3)⟩,
 ⟨(some 2), none, false, .mov (.t 22)⟩])
 .ret))))
theorem c14 : (Go.Proofs.Try.f14).body.bind (comp prog.P (1, (Go.Proofs.Try.f14).ntmps) lv14) = some m14 := by kernel_rfl
theorem r14 : resOK prog.P (Go.Proofs.Try.f14).results.toList = true := by kernel_rfl

/-- impl.AreAppeals -/
def lv15 : List (Nat × List Nat) := [(0, [0]), (1, [0, 5, 6, 7]), (2, [0, 5, 6, 7, 8]), (3, [0, 3, 4, 5, 6, 7]), (4, [0, 3, 4, 5, 6, 7, 29]), (5, [2]), (6, [0, 5, 6, 7, 38]), (7, [2]), (8, [0, 5, 6, 7]), (9, [2])]
def m15 : MC :=
  (.seq
 (.reg false [0] [⟨(some 2), none, false, .mov (.k (.d (.bool false)))⟩])
 (.seq
 (.seq
 (.reg false [0, 5, 6, 7] [⟨(some 5), none, false, .mov (.t 0)⟩,
 ⟨(some 6), none, false, .len false (.t 5)⟩,
 ⟨(some 7), none, false, .mov (.k (.d (.int .i64 0)))⟩])
 (.block 0
 (.loop
 (.seq
 (.reg false [0, 5, 6, 7, 8] [⟨(some 8), none, false, .bin .lss (.t 7) (.t 6)⟩])
 (.seq
 (.cond (.t 8)
 .skip
 (.exit 0))
 (.seq
 (.block 1
 (.seq
 (.reg false [0, 3, 4, 5, 6, 7] [⟨(some 9), none, false, .mov (.t 7)⟩,
 ⟨(some 10), none, false, .ia 6 (.t 5) (.t 7)⟩,
 ⟨(some 11), none, false, .ld (some 6) (.t 10)⟩,
 ⟨(some 4), none, true, .alloc (.st (.cons (.int .i64 0) (.cons (.int .i64 0) (.cons (.int .i64 0) (.cons (.sl true 1 .nil) (.cons (.sl true 1 .nil) (.cons (.int .i64 0) .nil)))))))⟩,
 ⟨(some 3), none, false, .mov (.t 9)⟩,
 ⟨none, none, true, .st 6 (.t 4) (.t 11)⟩])
 (.seq
 (.seq
 (.reg true [0, 3, 4, 5, 6, 7, 29] [⟨(some 12), none, false, .ld (some 6) (.t 4)⟩,
 ⟨(some 13), none, false, .callP 56 [(.t 12)]⟩,
 ⟨(some 14), none, false, .un .not (.t 13)⟩,
 ⟨(some 15), none, false, .mov (.t 14)⟩,
 ⟨(some 16), (some (15, false)), false, .mov (.t 3)⟩,
 ⟨(some 17), (some (15, false)), false, .bin .gtr (.t 16) (.k (.d (.int .i64 0)))⟩,
 ⟨(some 18), (some (15, false)), false, .mov (.t 17)⟩,
 ⟨(some 19), (some (18, true)), false, .mov (.t 0)⟩,
 ⟨(some 20), (some (18, true)), false, .mov (.t 3)⟩,
 ⟨(some 21), (some (18, true)), false, .bin .sub (.t 20) (.k (.d (.int .i64 1)))⟩,
 ⟨(some 22), (some (18, true)), false, .ia 6 (.t 19) (.t 21)⟩,
 ⟨(some 23), (some (18, true)), false, .fa 0 0 (.t 22)⟩,
 ⟨(some 24), (some (18, true)), false, .ld none (.t 23)⟩,
 ⟨(some 25), (some (18, true)), false, .fa 0 0 (.t 4)⟩,
 ⟨(some 26), (some (18, true)), false, .ld none (.t 25)⟩,
 ⟨(some 27), (some (18, true)), false, .bin .geq (.t 24) (.t 26)⟩,
 ⟨(some 28), (some (15, false)), false, .pick (.t 18) (.t 27) (.k (.d (.bool false)))⟩,
 ⟨(some 29), none, false, .pick (.t 15) (.k (.d (.bool true))) (.t 28)⟩])
 (.cond (.t 29)
 (.seq
 (.reg false [2] [⟨(some 2), none, false, .mov (.k (.d (.bool false)))⟩])
 .ret)
 .skip))
 (.seq
 (.reg false [0, 5, 6, 7, 38] [⟨(some 30), none, false, .ld (some 6) (.t 4)⟩,
 ⟨(some 31), none, true, .call 57 [(.t 30)]⟩,
 ⟨(some 32), none, false, .mov (.t 31)⟩,
 ⟨(some 33), (some (32, true)), false, .mov (.t 0)⟩,
 ⟨(some 34), (some (32, true)), false, .mov (.t 3)⟩,
 ⟨(some 35), (some (32, true)), false, .slx 6 (.t 33) none (some (.t 34))⟩,
 ⟨(some 36), (some (32, true)), false, .clos 59 [(.t 4)]⟩,
 ⟨(some 37), (some (32, true)), true, .call 58 [(.t 35), (.t 36)]⟩,
 ⟨(some 38), none, false, .pick (.t 32) (.t 37) (.k (.d (.bool false)))⟩])
 (.cond (.t 38)
 (.seq
 (.reg false [2] [⟨(some 2), none, false, .mov (.k (.d (.bool false)))⟩])
 .ret)
 .skip)))))
 (.reg false [0, 5, 6, 7] [⟨(some 39), none, false, .bin .add (.t 7) (.k (.d (.int .i64 1)))⟩,
 ⟨(some 7), none, false, .mov (.t 39)⟩])))))))
 (.seq
 (.reg false [2] [⟨(some 40), none, false, .mov (.t 0)⟩,
 ⟨(some 41), none, false, .len false (.t 40)⟩,
 ⟨(some 42), none, false, .bin .leq (.t 41) (.k (.d (.int .i64 10)))⟩,
 ⟨(some 2), none, false, .mov (.t 42)⟩])
 .ret)))
theorem c15 : (Go.Proofs.Try.f15).body.bind (comp prog.P (1, (Go.Proofs.Try.f15).ntmps) lv15) = some m15 := by kernel_rfl
theorem r15 : resOK prog.P (Go.Proofs.Try.f15).results.toList = true := by kernel_rfl

/-- laws.eqAppealS -/
def lv16 : List (Nat × List Nat) := [(0, [0, 1]), (1, [0, 1, 10]), (2, [4]), (3, [0, 1, 5]), (4, [0, 1, 5, 14]), (5, [0, 1, 5]), (6, [0, 1, 5, 26]), (7, [4]), (8, [4])]
def m16 : MC :=
  (.seq
 (.reg false [0, 1] [⟨(some 4), none, false, .mov (.k (.d (.bool false)))⟩])
 (.seq
 (.seq
 (.reg false [0, 1, 10] [⟨(some 6), none, false, .mov (.t 0)⟩,
 ⟨(some 7), none, false, .len false (.t 6)⟩,
 ⟨(some 8), none, false, .mov (.t 1)⟩,
 ⟨(some 9), none, false, .len false (.t 8)⟩,
 ⟨(some 10), none, false, .bin .neq (.t 7) (.t 9)⟩])
 (.cond (.t 10)
 (.seq
 (.reg false [4] [⟨(some 4), none, false, .mov (.k (.d (.bool false)))⟩])
 .ret)
 .skip))
 (.seq
 (.seq
 (.reg false [0, 1, 5] [⟨(some 5), none, false, .mov (.k (.d (.int .i64 0)))⟩])
 (.block 0
 (.loop
 (.seq
 (.seq
 (.reg false [0, 1, 5, 14] [⟨(some 11), none, false, .mov (.t 5)⟩,
 ⟨(some 12), none, false, .mov (.t 0)⟩,
 ⟨(some 13), none, false, .len false (.t 12)⟩,
 ⟨(some 14), none, false, .bin .lss (.t 11) (.t 13)⟩])
 (.cond (.t 14)
 .skip
 (.exit 0)))
 (.seq
 (.block 1
 (.seq
 (.reg true [0, 1, 5, 26] [⟨(some 17), none, false, .mov (.t 0)⟩,
 ⟨(some 18), none, false, .mov (.t 5)⟩,
 ⟨(some 19), none, false, .ia 6 (.t 17) (.t 18)⟩,
 ⟨(some 20), none, false, .ld (some 6) (.t 19)⟩,
 ⟨(some 21), none, false, .mov (.t 1)⟩,
 ⟨(some 22), none, false, .mov (.t 5)⟩,
 ⟨(some 23), none, false, .ia 6 (.t 21) (.t 22)⟩,
 ⟨(some 24), none, false, .ld (some 6) (.t 23)⟩,
 ⟨(some 25), none, false, .callP 60 [(.t 20), (.t 24)]⟩,
 ⟨(some 26), none, false, .un .not (.t 25)⟩])
 (.cond (.t 26)
 (.seq
 (.reg false [4] [⟨(some 4), none, false, .mov (.k (.d (.bool false)))⟩])
 .ret)
 .skip)))
 (.reg false [0, 1, 5] [⟨(some 15), none, false, .mov (.t 5)⟩,
 ⟨(some 16), none, false, .bin .add (.t 15) (.k (.d (.int .i64 1)))⟩,
 ⟨(some 5), none, false, .mov (.t 16)⟩]))))))
 (.seq
 (.reg false [4] [⟨(some 4), none, false, .mov (.k (.d (.bool true)))⟩])
 .ret))))
theorem c16 : (Go.Proofs.Try.f16).body.bind (comp prog.P (2, (Go.Proofs.Try.f16).ntmps) lv16) = some m16 := by kernel_rfl
theorem r16 : resOK prog.P (Go.Proofs.Try.f16).results.toList = true := by kernel_rfl

/-- spec.DaysLeft -/
def lv17 : List (Nat × List Nat) := [(0, [0, 1, 2]), (1, [0, 2, 8]), (2, [0, 2, 8, 40]), (3, [6, 7]), (4, [6, 7])]
def m17 : MC :=
  (.seq
 (.reg false [0, 1, 2] [⟨(some 6), none, false, .mov (.k (.d (.int .i64 0)))⟩,
 ⟨(some 7), none, false, .mov (.k (.d (.bool false)))⟩])
 (.seq
 (.reg false [0, 2, 8] [⟨(some 9), none, false, .mov (.t 0)⟩,
 ⟨(some 10), none, false, .mov (.t 1)⟩,
 ⟨(some 11), none, true, .call 61 [(.t 9), (.t 10)]⟩,
 ⟨(some 8), none, false, .mov (.t 11)⟩])
 (.seq
 (.seq
 (.reg false [0, 2, 8, 40] [⟨(some 12), none, false, .mov (.t 0)⟩,
 ⟨(some 13), none, true, .call 54 [(.t 12)]⟩,
 ⟨(some 14), none, false, .un .not (.t 13)⟩,
 ⟨(some 15), none, false, .mov (.t 14)⟩,
 ⟨(some 16), (some (15, false)), false, .mov (.t 8)⟩,
 ⟨(some 17), (some (15, false)), false, .bin .lss (.t 16) (.k (.d (.int .i64 0)))⟩,
 ⟨(some 18), none, false, .pick (.t 15) (.k (.d (.bool true))) (.t 17)⟩,
 ⟨(some 19), none, false, .mov (.t 18)⟩,
 ⟨(some 20), (some (19, false)), false, .mov (.t 0)⟩,
 ⟨(some 21), (some (19, false)), false, .mov (.t 8)⟩,
 ⟨(some 22), (some (19, false)), false, .ia 6 (.t 20) (.t 21)⟩,
 ⟨(some 23), (some (19, false)), false, .fa 5 5 (.t 22)⟩,
 ⟨(some 24), (some (19, false)), false, .ld none (.t 23)⟩,
 ⟨(some 25), (some (19, false)), false, .bin .neq (.t 24) (.k (.d (.int .i64 0)))⟩,
 ⟨(some 26), none, false, .pick (.t 19) (.k (.d (.bool true))) (.t 25)⟩,
 ⟨(some 27), none, false, .mov (.t 26)⟩,
 ⟨(some 28), (some (27, false)), false, .mov (.t 2)⟩,
 ⟨(some 29), (some (27, false)), true, .call 62 [(.t 28)]⟩,
 ⟨(some 30), (some (27, false)), false, .un .not (.t 29)⟩,
 ⟨(some 31), none, false, .pick (.t 27) (.k (.d (.bool true))) (.t 30)⟩,
 ⟨(some 32), none, false, .mov (.t 31)⟩,
 ⟨(some 33), (some (32, false)), false, .mov (.t 2)⟩,
 ⟨(some 34), (some (32, false)), false, .mov (.t 0)⟩,
 ⟨(some 35), (some (32, false)), false, .mov (.t 8)⟩,
 ⟨(some 36), (some (32, false)), false, .ia 6 (.t 34) (.t 35)⟩,
 ⟨(some 37), (some (32, false)), false, .fa 2 2 (.t 36)⟩,
 ⟨(some 38), (some (32, false)), false, .ld none (.t 37)⟩,
 ⟨(some 39), (some (32, false)), false, .bin .lss (.t 33) (.t 38)⟩,
 ⟨(some 40), none, false, .pick (.t 32) (.k (.d (.bool true))) (.t 39)⟩])
 (.cond (.t 40)
 (.seq
 (.reg false [6, 7] [⟨(some 6), none, false, .mov (.k (.d (.int .i64 0)))⟩,
 ⟨(some 7), none, false, .mov (.k (.d (.bool false)))⟩])
 .ret)
 .skip))
 (.seq
 (.reg false [6, 7] [⟨(some 41), none, false, .mov (.t 2)⟩,
 ⟨(some 42), none, false, .bin .sub (.k (.d (.int .i64 60))) (.t 41)⟩,
 ⟨(some 43), none, false, .mov (.t 0)⟩,
 ⟨(some 44), none, false, .mov (.t 8)⟩,
 ⟨(some 45), none, false, .ia 6 (.t 43) (.t 44)⟩,
 ⟨(some 46), none, false, .fa 2 2 (.t 45)⟩,
 ⟨(some 47), none, false, .ld none (.t 46)⟩,
 ⟨(some 48), none, false, .bin .add (.t 42) (.t 47)⟩,
 ⟨(some 49), none, true, .call 63 [(.k (.d (.int .i64 0))), (.t 48)]⟩,
 ⟨(some 6), none, false, .mov (.t 49)⟩,
 ⟨(some 7), none, false, .mov (.k (.d (.bool true)))⟩])
 .ret))))
theorem c17 : (Go.Proofs.Try.f17).body.bind (comp prog.P (3, (Go.Proofs.Try.f17).ntmps) lv17) = some m17 := by kernel_rfl
theorem r17 : resOK prog.P (Go.Proofs.Try.f17).results.toList = true := by kernel_rfl

/-- impl.DaysLeft -/
def lv18 : List (Nat × List Nat) := [(0, [0, 1, 2]), (1, [0, 2, 8]), (2, [0, 2, 8, 36]), (3, [6, 7]), (4, [6, 7])]
def m18 : MC :=
  (.seq
 (.reg false [0, 1, 2] [⟨(some 6), none, false, .mov (.k (.d (.int .i64 0)))⟩,
 ⟨(some 7), none, false, .mov (.k (.d (.bool false)))⟩])
 (.seq
 (.reg false [0, 2, 8] [⟨(some 9), none, false, .mov (.t 0)⟩,
 ⟨(some 10), none, false, .mov (.t 1)⟩,
 ⟨(some 11), none, true, .call 64 [(.t 9), (.t 10)]⟩,
 ⟨(some 8), none, false, .mov (.t 11)⟩])
 (.seq
 (.seq
 (.reg false [0, 2, 8, 36] [⟨(some 12), none, false, .mov (.t 0)⟩,
 ⟨(some 13), none, true, .call 15 [(.t 12)]⟩,
 ⟨(some 14), none, false, .un .not (.t 13)⟩,
 ⟨(some 15), none, false, .mov (.t 14)⟩,
 ⟨(some 16), (some (15, false)), false, .mov (.t 8)⟩,
 ⟨(some 17), (some (15, false)), false, .bin .lss (.t 16) (.k (.d (.int .i64 0)))⟩,
 ⟨(some 18), none, false, .pick (.t 15) (.k (.d (.bool true))) (.t 17)⟩,
 ⟨(some 19), none, false, .mov (.t 18)⟩,
 ⟨(some 20), (some (19, false)), false, .mov (.t 0)⟩,
 ⟨(some 21), (some (19, false)), false, .mov (.t 8)⟩,
 ⟨(some 22), (some (19, false)), false, .ia 6 (.t 20) (.t 21)⟩,
 ⟨(some 23), (some (19, false)), false, .fa 5 5 (.t 22)⟩,
 ⟨(some 24), (some (19, false)), false, .ld none (.t 23)⟩,
 ⟨(some 25), (some (19, false)), false, .bin .neq (.t 24) (.k (.d (.int .i64 0)))⟩,
 ⟨(some 26), none, false, .pick (.t 19) (.k (.d (.bool true))) (.t 25)⟩,
 ⟨(some 27), none, false, .mov (.t 26)⟩,
 ⟨(some 28), (some (27, false)), false, .mov (.t 0)⟩,
 ⟨(some 29), (some (27, false)), false, .mov (.t 8)⟩,
 ⟨(some 30), (some (27, false)), false, .ia 6 (.t 28) (.t 29)⟩,
 ⟨(some 31), (some (27, false)), false, .fa 2 2 (.t 30)⟩,
 ⟨(some 32), (some (27, false)), false, .ld none (.t 31)⟩,
 ⟨(some 33), (some (27, false)), false, .mov (.t 2)⟩,
 ⟨(some 34), (some (27, false)), true, .call 65 [(.t 32), (.t 33)]⟩,
 ⟨(some 35), (some (27, false)), false, .un .not (.t 34)⟩,
 ⟨(some 36), none, false, .pick (.t 27) (.k (.d (.bool true))) (.t 35)⟩])
 (.cond (.t 36)
 (.seq
 (.reg false [6, 7] [⟨(some 6), none, false, .mov (.k (.d (.int .i64 0)))⟩,
 ⟨(some 7), none, false, .mov (.k (.d (.bool false)))⟩])
 .ret)
 .skip))
 (.seq
 (.reg false [6, 7] [⟨(some 37), none, false, .mov (.t 2)⟩,
 ⟨(some 38), none, false, .mov (.t 0)⟩,
 ⟨(some 39), none, false, .mov (.t 8)⟩,
 ⟨(some 40), none, false, .ia 6 (.t 38) (.t 39)⟩,
 ⟨(some 41), none, false, .fa 2 2 (.t 40)⟩,
 ⟨(some 42), none, false, .ld none (.t 41)⟩,
 ⟨(some 43), none, false, .bin .sub (.t 37) (.t 42)⟩,
 ⟨(some 44), none, false, .bin .sub (.k (.d (.int .i64 60))) (.t 43)⟩,
 ⟨(some 45), none, false, .mx true (.t 44) (.k (.d (.int .i64 0)))⟩,
 ⟨(some 6), none, false, .mov (.t 45)⟩,
 ⟨(some 7), none, false, .mov (.k (.d (.bool true)))⟩])
 .ret))))
theorem c18 : (Go.Proofs.Try.f18).body.bind (comp prog.P (3, (Go.Proofs.Try.f18).ntmps) lv18) = some m18 := by kernel_rfl
theorem r18 : resOK prog.P (Go.Proofs.Try.f18).results.toList = true := by kernel_rfl

/-- laws.eqIntS -/
def lv25 : List (Nat × List Nat) := [(0, [0, 1]), (1, [0, 1, 10]), (2, [4]), (3, [0, 1, 5]), (4, [0, 1, 5, 14]), (5, [0, 1, 5]), (6, [0, 1, 5, 25]), (7, [4]), (8, [4])]
def m25 : MC :=
  (.seq
 (.reg false [0, 1] [⟨(some 4), none, false, .mov (.k (.d (.bool false)))⟩])
 (.seq
 (.seq
 (.reg false [0, 1, 10] [⟨(some 6), none, false, .mov (.t 0)⟩,
 ⟨(some 7), none, false, .len false (.t 6)⟩,
 ⟨(some 8), none, false, .mov (.t 1)⟩,
 ⟨(some 9), none, false, .len false (.t 8)⟩,
 ⟨(some 10), none, false, .bin .neq (.t 7) (.t 9)⟩])
 (.cond (.t 10)
 (.seq
 (.reg false [4] [⟨(some 4), none, false, .mov (.k (.d (.bool false)))⟩])
 .ret)
 .skip))
 (.seq
 (.seq
 (.reg false [0, 1, 5] [⟨(some 5), none, false, .mov (.k (.d (.int .i64 0)))⟩])
 (.block 0
 (.loop
 (.seq
 (.seq
 (.reg false [0, 1, 5, 14] [⟨(some 11), none, false, .mov (.t 5)⟩,
 ⟨(some 12), none, false, .mov (.t 0)⟩,
 ⟨(some 13), none, false, .len false (.t 12)⟩,
 ⟨(some 14), none, false, .bin .lss (.t 11) (.t 13)⟩])
 (.cond (.t 14)
 .skip
 (.exit 0)))
 (.seq
 (.block 1
 (.seq
 (.reg true [0, 1, 5, 25] [⟨(some 17), none, false, .mov (.t 0)⟩,
 ⟨(some 18), none, false, .mov (.t 5)⟩,
 ⟨(some 19), none, false, .ia 1 (.t 17) (.t 18)⟩,
 ⟨(some 20), none, false, .ld none (.t 19)⟩,
 ⟨(some 21), none, false, .mov (.t 1)⟩,
 ⟨(some 22), none, false, .mov (.t 5)⟩,
 ⟨(some 23), none, false, .ia 1 (.t 21) (.t 22)⟩,
 ⟨(some 24), none, false, .ld none (.t 23)⟩,
 ⟨(some 25), none, false, .bin .neq (.t 20) (.t 24)⟩])
 (.cond (.t 25)
 (.seq
 (.reg false [4] [⟨(some 4), none, false, .mov (.k (.d (.bool false)))⟩])
 .ret)
 .skip)))
 (.reg false [0, 1, 5] [⟨(some 15), none, false, .mov (.t 5)⟩,
 ⟨(some 16), none, false, .bin .add (.t 15) (.k (.d (.int .i64 1)))⟩,
 ⟨(some 5), none, false, .mov (.t 16)⟩]))))))
 (.seq
 (.reg false [4] [⟨(some 4), none, false, .mov (.k (.d (.bool true)))⟩])
 .ret))))
theorem c25 : (Go.Proofs.Try.f25).body.bind (comp prog.P (2, (Go.Proofs.Try.f25).ntmps) lv25) = some m25 := by kernel_rfl
theorem r25 : resOK prog.P (Go.Proofs.Try.f25).results.toList = true := by kernel_rfl

/-- laws.markAppealS -/
def lv26 : List (Nat × List Nat) := [(0, [0, 1]), (1, [0, 1, 5]), (2, [0, 1, 5, 9]), (3, [0, 1, 5]), (4, [0, 1, 5]), (5, [0, 1, 5]), (6, [0, 1, 5]), (7, [0, 1, 5]), (8, [0, 1, 5]), (9, [0, 1, 5]), (10, [0, 1, 5]), (11, [0, 1, 5]), (12, [0, 1, 5]), (13, [0, 1, 5]), (14, [0, 4])]
def m26 : MC :=
  (.seq
 (.reg false [0, 1] [⟨(some 4), none, false, .mov (.k (.d (.int .i64 0)))⟩])
 (.seq
 (.seq
 (.reg false [0, 1, 5] [⟨(some 5), none, false, .mov (.k (.d (.int .i64 0)))⟩])
 (.block 0
 (.loop
 (.seq
 (.seq
 (.reg false [0, 1, 5, 9] [⟨(some 6), none, false, .mov (.t 5)⟩,
 ⟨(some 7), none, false, .mov (.t 0)⟩,
 ⟨(some 8), none, false, .len false (.t 7)⟩,
 ⟨(some 9), none, false, .bin .lss (.t 6) (.t 8)⟩])
 (.cond (.t 9)
 .skip
 (.exit 0)))
 (.seq
 (.block 1
 (.seq
 (.reg false [0, 1, 5] [⟨(some 12), none, false, .mov (.t 0)⟩,
 ⟨(some 13), none, false, .mov (.t 5)⟩,
 ⟨(some 14), none, false, .mov (.t 1)⟩,
 ⟨(some 15), none, false, .ia 6 (.t 12) (.t 13)⟩,
 ⟨(some 16), none, false, .fa 0 0 (.t 15)⟩,
 ⟨none, none, true, .st 1 (.t 16) (.t 14)⟩])
 (.seq
 (.reg false [0, 1, 5] [⟨(some 17), none, false, .mov (.t 1)⟩,
 ⟨(some 18), none, false, .bin .add (.t 17) (.k (.d (.int .i64 1)))⟩,
 ⟨(some 1), none, false, .mov (.t 18)⟩])
 (.seq
 (.reg false [0, 1, 5] [⟨(some 19), none, false, .mov (.t 0)⟩,
 ⟨(some 20), none, false, .mov (.t 5)⟩,
 ⟨(some 21), none, false, .mov (.t 1)⟩,
 ⟨(some 22), none, false, .ia 6 (.t 19) (.t 20)⟩,
 ⟨(some 23), none, false, .fa 1 1 (.t 22)⟩,
 ⟨none, none, true, .st 1 (.t 23) (.t 21)⟩])
 (.seq
 (.reg false [0, 1, 5] [⟨(some 24), none, false, .mov (.t 1)⟩,
 ⟨(some 25), none, false, .bin .add (.t 24) (.k (.d (.int .i64 1)))⟩,
 ⟨(some 1), none, false, .mov (.t 25)⟩])
 (.seq
 (.reg false [0, 1, 5] [⟨(some 26), none, false, .mov (.t 0)⟩,
 ⟨(some 27), none, false, .mov (.t 5)⟩,
 ⟨(some 28), none, false, .mov (.t 1)⟩,
 ⟨(some 29), none, false, .ia 6 (.t 26) (.t 27)⟩,
 ⟨(some 30), none, false, .fa 2 2 (.t 29)⟩,
 ⟨none, none, true, .st 1 (.t 30) (.t 28)⟩])
 (.seq
 (.reg false [0, 1, 5] [⟨(some 31), none, false, .mov (.t 1)⟩,
 ⟨(some 32), none, false, .bin .add (.t 31) (.k (.d (.int .i64 1)))⟩,
 ⟨(some 1), none, false, .mov (.t 32)⟩])
 (.seq
 (.reg false [0, 1, 5] [⟨(some 33), none, false, .mov (.t 0)⟩,
 ⟨(some 34), none, false, .mov (.t 5)⟩,
 ⟨(some 35), none, false, .ia 6 (.t 33) (.t 34)⟩,
 ⟨(some 36), none, false, .fa 3 3 (.t 35)⟩,
 ⟨(some 37), none, false, .ld none (.t 36)⟩,
 ⟨(some 38), none, false, .mov (.t 1)⟩,
 ⟨(some 39), none, true, .call 27 [(.t 37), (.t 38)]⟩,
 ⟨(some 1), none, false, .mov (.t 39)⟩])
 (.seq
 (.reg false [0, 1, 5] [⟨(some 40), none, false, .mov (.t 0)⟩,
 ⟨(some 41), none, false, .mov (.t 5)⟩,
 ⟨(some 42), none, false, .ia 6 (.t 40) (.t 41)⟩,
 ⟨(some 43), none, false, .fa 4 4 (.t 42)⟩,
 ⟨(some 44), none, false, .ld none (.t 43)⟩,
 ⟨(some 45), none, false, .mov (.t 1)⟩,
 ⟨(some 46), none, true, .call 27 [(.t 44), (.t 45)]⟩,
 ⟨(some 1), none, false, .mov (.t 46)⟩])
 (.seq
 (.reg false [0, 1, 5] [⟨(some 47), none, false, .mov (.t 0)⟩,
 ⟨(some 48), none, false, .mov (.t 5)⟩,
 ⟨(some 49), none, false, .mov (.t 1)⟩,
 ⟨(some 50), none, false, .ia 6 (.t 47) (.t 48)⟩,
 ⟨(some 51), none, false, .fa 5 5 (.t 50)⟩,
 ⟨none, none, true, .st 1 (.t 51) (.t 49)⟩])
 (.reg false [0, 1, 5] [⟨(some 52), none, false, .mov (.t 1)⟩,
 ⟨(some 53), none, false, .bin .add (.t 52) (.k (.d (.int .i64 1)))⟩,
 ⟨(some 1), none, false, .mov (.t 53)⟩])))))))))))
 (.reg false [0, 1, 5] [⟨(some 10), none, false, .mov (.t 5)⟩,
 ⟨(some 11), none, false, .bin .add (.t 10) (.k (.d (.int .i64 1)))⟩,
 ⟨(some 5), none, false, .mov (.t 11)⟩]))))))
 (.seq
 (.reg false [0, 4] [⟨(some 54), none, false, .mov (.t 1)⟩,
 ⟨(some 4), none, false, .mov (.t 54)⟩])
 .ret)))
theorem c26 : (Go.Proofs.Try.f26).body.bind (comp prog.P (1, (Go.Proofs.Try.f26).ntmps) lv26) = some m26 := by kernel_rfl
theorem r26 : resOK prog.P (Go.Proofs.Try.f26).results.toList = true := by kernel_rfl

/-- laws.markIntS -/
def lv27 : List (Nat × List Nat) := [(0, [0, 1]), (1, [0, 1, 5]), (2, [0, 1, 5, 9]), (3, [0, 1, 5]), (4, [0, 1, 5]), (5, [0, 1, 5]), (6, [0, 4])]
def m27 : MC :=
  (.seq
 (.reg false [0, 1] [⟨(some 4), none, false, .mov (.k (.d (.int .i64 0)))⟩])
 (.seq
 (.seq
 (.reg false [0, 1, 5] [⟨(some 5), none, false, .mov (.k (.d (.int .i64 0)))⟩])
 (.block 0
 (.loop
 (.seq
 (.seq
 (.reg false [0, 1, 5, 9] [⟨(some 6), none, false, .mov (.t 5)⟩,
 ⟨(some 7), none, false, .mov (.t 0)⟩,
 ⟨(some 8), none, false, .len false (.t 7)⟩,
 ⟨(some 9), none, false, .bin .lss (.t 6) (.t 8)⟩])
 (.cond (.t 9)
 .skip
 (.exit 0)))
 (.seq
 (.block 1
 (.seq
 (.reg false [0, 1, 5] [⟨(some 12), none, false, .mov (.t 0)⟩,
 ⟨(some 13), none, false, .mov (.t 5)⟩,
 ⟨(some 14), none, false, .mov (.t 1)⟩,
 ⟨(some 15), none, false, .ia 1 (.t 12) (.t 13)⟩,
 ⟨none, none, true, .st 1 (.t 15) (.t 14)⟩])
 (.reg false [0, 1, 5] [⟨(some 16), none, false, .mov (.t 1)⟩,
 ⟨(some 17), none, false, .bin .add (.t 16) (.k (.d (.int .i64 1)))⟩,
 ⟨(some 1), none, false, .mov (.t 17)⟩])))
 (.reg false [0, 1, 5] [⟨(some 10), none, false, .mov (.t 5)⟩,
 ⟨(some 11), none, false, .bin .add (.t 10) (.k (.d (.int .i64 1)))⟩,
 ⟨(some 5), none, false, .mov (.t 11)⟩]))))))
 (.seq
 (.reg false [0, 4] [⟨(some 18), none, false, .mov (.t 1)⟩,
 ⟨(some 4), none, false, .mov (.t 18)⟩])
 .ret)))
theorem c27 : (Go.Proofs.Try.f27).body.bind (comp prog.P (1, (Go.Proofs.Try.f27).ntmps) lv27) = some m27 := by kernel_rfl
theorem r27 : resOK prog.P (Go.Proofs.Try.f27).results.toList = true := by kernel_rfl

/-- laws.heldIntS -/
def lv28 : List (Nat × List Nat) := [(0, [0, 1]), (1, [0, 1, 5]), (2, [0, 1, 5, 9]), (3, [0, 1, 5]), (4, [0, 1, 5, 17]), (5, [4]), (6, [0, 1, 5]), (7, [4])]
def m28 : MC :=
  (.seq
 (.reg false [0, 1] [⟨(some 4), none, false, .mov (.k (.d (.int .i64 0)))⟩])
 (.seq
 (.seq
 (.reg false [0, 1, 5] [⟨(some 5), none, false, .mov (.k (.d (.int .i64 0)))⟩])
 (.block 0
 (.loop
 (.seq
 (.seq
 (.reg false [0, 1, 5, 9] [⟨(some 6), none, false, .mov (.t 5)⟩,
 ⟨(some 7), none, false, .mov (.t 0)⟩,
 ⟨(some 8), none, false, .len false (.t 7)⟩,
 ⟨(some 9), none, false, .bin .lss (.t 6) (.t 8)⟩])
 (.cond (.t 9)
 .skip
 (.exit 0)))
 (.seq
 (.block 1
 (.seq
 (.seq
 (.reg false [0, 1, 5, 17] [⟨(some 12), none, false, .mov (.t 0)⟩,
 ⟨(some 13), none, false, .mov (.t 5)⟩,
 ⟨(some 14), none, false, .ia 1 (.t 12) (.t 13)⟩,
 ⟨(some 15), none, false, .ld none (.t 14)⟩,
 ⟨(some 16), none, false, .mov (.t 1)⟩,
 ⟨(some 17), none, false, .bin .neq (.t 15) (.t 16)⟩])
 (.cond (.t 17)
 (.seq
 (.reg false [4] [⟨(some 4), none, false, .mov (.k (.d (.int .i64 (-1))))⟩])
 .ret)
 .skip))
 (.reg false [0, 1, 5] [⟨(some 18), none, false, .mov (.t 1)⟩,
 ⟨(some 19), none, false, .bin .add (.t 18) (.k (.d (.int .i64 1)))⟩,
 ⟨(some 1), none, false, .mov (.t 19)⟩])))
 (.reg false [0, 1, 5] [⟨(some 10), none, false, .mov (.t 5)⟩,
 ⟨(some 11), none, false, .bin .add (.t 10) (.k (.d (.int .i64 1)))⟩,
 ⟨(some 5), none, false, .mov (.t 11)⟩]))))))
 (.seq
 (.reg false [4] [⟨(some 20), none, false, .mov (.t 1)⟩,
 ⟨(some 4), none, false, .mov (.t 20)⟩])
 .ret)))
theorem c28 : (Go.Proofs.Try.f28).body.bind (comp prog.P (1, (Go.Proofs.Try.f28).ntmps) lv28) = some m28 := by kernel_rfl
theorem r28 : resOK prog.P (Go.Proofs.Try.f28).results.toList = true := by kernel_rfl

/-- spec.LapseAppeals -/
def lv29 : List (Nat × List Nat) := [(0, [0, 1]), (1, [0, 1, 7]), (2, [0, 1, 7, 19]), (3, [4, 5, 6]), (4, [1, 7, 8]), (5, [1, 7, 8, 9]), (6, [1, 7, 8, 9, 27]), (7, [1, 7, 8, 9]), (8, [1, 7, 8, 9, 10]), (9, [1, 7, 8, 9, 10, 43]), (10, [1, 7, 8, 9, 10]), (11, [1, 7, 8, 9, 10]), (12, [1, 7, 8, 9]), (13, [4, 5, 6])]
def m29 : MC :=
  (.seq
 (.reg false [0, 1] [⟨(some 4), none, false, .mov (.k .nil)⟩,
 ⟨(some 5), none, false, .mov (.k .nil)⟩,
 ⟨(some 6), none, false, .mov (.k (.d (.bool false)))⟩])
 (.seq
 (.reg false [0, 1, 7] [⟨(some 11), none, true, .bs 1 0 (.int .i64 0) []⟩,
 ⟨(some 7), none, false, .mov (.t 11)⟩])
 (.seq
 (.seq
 (.reg false [0, 1, 7, 19] [⟨(some 12), none, false, .mov (.t 0)⟩,
 ⟨(some 13), none, true, .call 54 [(.t 12)]⟩,
 ⟨(some 14), none, false, .un .not (.t 13)⟩,
 ⟨(some 15), none, false, .mov (.t 14)⟩,
 ⟨(some 16), (some (15, false)), false, .mov (.t 1)⟩,
 ⟨(some 17), (some (15, false)), true, .call 62 [(.t 16)]⟩,
 ⟨(some 18), (some (15, false)), false, .un .not (.t 17)⟩,
 ⟨(some 19), none, false, .pick (.t 15) (.k (.d (.bool true))) (.t 18)⟩])
 (.cond (.t 19)
 (.seq
 (.reg false [4, 5, 6] [⟨(some 20), none, true, .bs 6 0 (.st (.cons (.int .i64 0) (.cons (.int .i64 0) (.cons (.int .i64 0) (.cons (.sl true 1 .nil) (.cons (.sl true 1 .nil) (.cons (.int .i64 0) .nil))))))) []⟩,
 ⟨(some 21), none, false, .mov (.t 7)⟩,
 ⟨(some 4), none, false, .mov (.t 20)⟩,
 ⟨(some 5), none, false, .mov (.t 21)⟩,
 ⟨(some 6), none, false, .mov (.k (.d (.bool false)))⟩])
 .ret)
 .skip))
 (.seq
 (.reg false [1, 7, 8] [⟨(some 22), none, false, .mov (.t 0)⟩,
 ⟨(some 23), none, true, .call 73 [(.t 22)]⟩,
 ⟨(some 8), none, false, .mov (.t 23)⟩])
 (.seq
 (.seq
 (.reg false [1, 7, 8, 9] [⟨(some 9), none, false, .mov (.k (.d (.int .i64 0)))⟩])
 (.block 0
 (.loop
 (.seq
 (.seq
 (.reg false [1, 7, 8, 9, 27] [⟨(some 24), none, false, .mov (.t 9)⟩,
 ⟨(some 25), none, false, .mov (.t 8)⟩,
 ⟨(some 26), none, false, .len false (.t 25)⟩,
 ⟨(some 27), none, false, .bin .lss (.t 24) (.t 26)⟩])
 (.cond (.t 27)
 .skip
 (.exit 0)))
 (.seq
 (.block 1
 (.seq
 (.reg false [1, 7, 8, 9, 10] [⟨(some 30), none, false, .mov (.t 8)⟩,
 ⟨(some 31), none, false, .mov (.t 9)⟩,
 ⟨(some 32), none, false, .ia 6 (.t 30) (.t 31)⟩,
 ⟨(some 33), none, false, .ld (some 6) (.t 32)⟩,
 ⟨(some 10), none, true, .alloc (.st (.cons (.int .i64 0) (.cons (.int .i64 0) (.cons (.int .i64 0) (.cons (.sl true 1 .nil) (.cons (.sl true 1 .nil) (.cons (.int .i64 0) .nil)))))))⟩,
 ⟨none, none, true, .st 6 (.t 10) (.t 33)⟩])
 (.seq
 (.reg false [1, 7, 8, 9, 10, 43] [⟨(some 34), none, false, .fa 5 5 (.t 10)⟩,
 ⟨(some 35), none, false, .ld none (.t 34)⟩,
 ⟨(some 36), none, false, .bin .eql (.t 35) (.k (.d (.int .i64 0)))⟩,
 ⟨(some 37), none, false, .mov (.t 36)⟩,
 ⟨(some 38), (some (37, true)), false, .mov (.t 1)⟩,
 ⟨(some 39), (some (37, true)), false, .fa 2 2 (.t 10)⟩,
 ⟨(some 40), (some (37, true)), false, .ld none (.t 39)⟩,
 ⟨(some 41), (some (37, true)), false, .bin .sub (.t 38) (.t 40)⟩,
 ⟨(some 42), (some (37, true)), false, .bin .gtr (.t 41) (.k (.d (.int .i64 60)))⟩,
 ⟨(some 43), none, false, .pick (.t 37) (.t 42) (.k (.d (.bool false)))⟩])
 (.cond (.t 43)
 (.seq
 (.reg false [1, 7, 8, 9, 10] [⟨(some 44), none, false, .fa 5 5 (.t 10)⟩,
 ⟨none, none, true, .st 1 (.t 44) (.k (.d (.int .i64 4)))⟩])
 (.seq
 (.reg false [1, 7, 8, 9, 10] [⟨(some 45), none, false, .mov (.t 8)⟩,
 ⟨(some 46), none, false, .mov (.t 9)⟩,
 ⟨(some 47), none, false, .ld (some 6) (.t 10)⟩,
 ⟨(some 48), none, false, .ia 6 (.t 45) (.t 46)⟩,
 ⟨none, none, true, .st 6 (.t 48) (.t 47)⟩])
 (.reg false [1, 7, 8, 9] [⟨(some 49), none, false, .mov (.t 7)⟩,
 ⟨(some 50), none, false, .fa 0 0 (.t 10)⟩,
 ⟨(some 51), none, false, .ld none (.t 50)⟩,
 ⟨(some 52), none, true, .bs 1 1 (.int .i64 0) [(0, (.t 51))]⟩,
 ⟨(some 53), none, true, .app 1 8 (.t 49) (.t 52)⟩,
 ⟨(some 7), none, false, .mov (.t 53)⟩])))
 .skip))))
 (.reg false [1, 7, 8, 9] [⟨(some 28), none, false, .mov (.t 9)⟩,
 ⟨(some 29), none, false, .bin .add (.t 28) (.k (.d (.int .i64 1)))⟩,
 ⟨(some 9), none, false, .mov (.t 29)⟩]))))))
 (.seq
 (.reg false [4, 5, 6] [⟨(some 54), none, false, .mov (.t 8)⟩,
 ⟨(some 55), none, false, .mov (.t 7)⟩,
 ⟨(some 4), none, false, .mov (.t 54)⟩,
 ⟨(some 5), none, false, .mov (.t 55)⟩,
 ⟨(some 6), none, false, .mov (.k (.d (.bool true)))⟩])
 .ret))))))
theorem c29 : (Go.Proofs.Try.f29).body.bind (comp prog.P (2, (Go.Proofs.Try.f29).ntmps) lv29) = some m29 := by kernel_rfl
theorem r29 : resOK prog.P (Go.Proofs.Try.f29).results.toList = true := by kernel_rfl

/-- impl.LapseAppeals -/
def lv30 : List (Nat × List Nat) := [(0, [0, 1]), (1, [0, 1, 18]), (2, [4, 5, 6]), (3, [1, 7]), (4, [1, 7, 8]), (5, [1, 7, 8, 21, 22, 23]), (6, [1, 7, 8, 21, 22, 23, 24]), (7, [1, 7, 8, 9, 10, 21, 22, 23]), (8, [1, 7, 8, 9, 10, 21, 22, 23, 37]), (9, [1, 7, 8, 10, 21, 22, 23]), (10, [1, 7, 8, 21, 22, 23]), (11, [1, 7, 8, 21, 22, 23]), (12, [4, 5, 6])]
def m30 : MC :=
  (.seq
 (.reg false [0, 1] [⟨(some 4), none, false, .mov (.k .nil)⟩,
 ⟨(some 5), none, false, .mov (.k .nil)⟩,
 ⟨(some 6), none, false, .mov (.k (.d (.bool false)))⟩])
 (.seq
 (.seq
 (.reg false [0, 1, 18] [⟨(some 11), none, false, .mov (.t 0)⟩,
 ⟨(some 12), none, true, .call 15 [(.t 11)]⟩,
 ⟨(some 13), none, false, .un .not (.t 12)⟩,
 ⟨(some 14), none, false, .mov (.t 13)⟩,
 ⟨(some 15), (some (14, false)), false, .mov (.t 1)⟩,
 ⟨(some 16), (some (14, false)), true, .call 74 [(.t 15)]⟩,
 ⟨(some 17), (some (14, false)), false, .un .not (.t 16)⟩,
 ⟨(some 18), none, false, .pick (.t 14) (.k (.d (.bool true))) (.t 17)⟩])
 (.cond (.t 18)
 (.seq
 (.reg false [4, 5, 6] [⟨(some 4), none, false, .mov (.k .nil)⟩,
 ⟨(some 5), none, false, .mov (.k .nil)⟩,
 ⟨(some 6), none, false, .mov (.k (.d (.bool false)))⟩])
 .ret)
 .skip))
 (.seq
 (.reg false [1, 7] [⟨(some 19), none, false, .mov (.t 0)⟩,
 ⟨(some 20), none, true, .call 75 [(.t 19)]⟩,
 ⟨(some 7), none, false, .mov (.t 20)⟩])
 (.seq
 (.reg false [1, 7, 8] [⟨(some 8), none, false, .mov (.k .nil)⟩])
 (.seq
 (.seq
 (.reg false [1, 7, 8, 21, 22, 23] [⟨(some 21), none, false, .mov (.t 7)⟩,
 ⟨(some 22), none, false, .len false (.t 21)⟩,
 ⟨(some 23), none, false, .mov (.k (.d (.int .i64 0)))⟩])
 (.block 0
 (.loop
 (.seq
 (.reg false [1, 7, 8, 21, 22, 23, 24] [⟨(some 24), none, false, .bin .lss (.t 23) (.t 22)⟩])
 (.seq
 (.cond (.t 24)
 .skip
 (.exit 0))
 (.seq
 (.block 1
 (.seq
 (.reg false [1, 7, 8, 9, 10, 21, 22, 23] [⟨(some 25), none, false, .mov (.t 23)⟩,
 ⟨(some 26), none, false, .ia 6 (.t 21) (.t 23)⟩,
 ⟨(some 27), none, false, .ld (some 6) (.t 26)⟩,
 ⟨(some 10), none, true, .alloc (.st (.cons (.int .i64 0) (.cons (.int .i64 0) (.cons (.int .i64 0) (.cons (.sl true 1 .nil) (.cons (.sl true 1 .nil) (.cons (.int .i64 0) .nil)))))))⟩,
 ⟨(some 9), none, false, .mov (.t 25)⟩,
 ⟨none, none, true, .st 6 (.t 10) (.t 27)⟩])
 (.seq
 (.reg false [1, 7, 8, 9, 10, 21, 22, 23, 37] [⟨(some 28), none, false, .fa 5 5 (.t 10)⟩,
 ⟨(some 29), none, false, .ld none (.t 28)⟩,
 ⟨(some 30), none, false, .bin .eql (.t 29) (.k (.d (.int .i64 0)))⟩,
 ⟨(some 31), none, false, .mov (.t 30)⟩,
 ⟨(some 32), (some (31, true)), false, .mov (.t 1)⟩,
 ⟨(some 33), (some (31, true)), false, .fa 2 2 (.t 10)⟩,
 ⟨(some 34), (some (31, true)), false, .ld none (.t 33)⟩,
 ⟨(some 35), (some (31, true)), false, .bin .sub (.t 32) (.t 34)⟩,
 ⟨(some 36), (some (31, true)), false, .bin .gtr (.t 35) (.k (.d (.int .i64 60)))⟩,
 ⟨(some 37), none, false, .pick (.t 31) (.t 36) (.k (.d (.bool false)))⟩])
 (.cond (.t 37)
 (.seq
 (.reg false [1, 7, 8, 10, 21, 22, 23] [⟨(some 38), none, false, .mov (.t 7)⟩,
 ⟨(some 39), none, false, .mov (.t 9)⟩,
 ⟨(some 40), none, false, .ia 6 (.t 38) (.t 39)⟩,
 ⟨(some 41), none, false, .fa 5 5 (.t 40)⟩,
 ⟨none, none, true, .st 1 (.t 41) (.k (.d (.int .i64 4)))⟩])
 (.reg false [1, 7, 8, 21, 22, 23] [⟨(some 42), none, false, .mov (.t 8)⟩,
 ⟨(some 43), none, false, .fa 0 0 (.t 10)⟩,
 ⟨(some 44), none, false, .ld none (.t 43)⟩,
 ⟨(some 45), none, true, .bs 1 1 (.int .i64 0) [(0, (.t 44))]⟩,
 ⟨(some 46), none, true, .app 1 8 (.t 42) (.t 45)⟩,
 ⟨(some 8), none, false, .mov (.t 46)⟩]))
 .skip))))
 (.reg false [1, 7, 8, 21, 22, 23] [⟨(some 47), none, false, .bin .add (.t 23) (.k (.d (.int .i64 1)))⟩,
 ⟨(some 23), none, false, .mov (.t 47)⟩])))))))
 (.seq
 (.reg false [4, 5, 6] [⟨(some 48), none, false, .mov (.t 7)⟩,
 ⟨(some 49), none, false, .mov (.t 8)⟩,
 ⟨(some 4), none, false, .mov (.t 48)⟩,
 ⟨(some 5), none, false, .mov (.t 49)⟩,
 ⟨(some 6), none, false, .mov (.k (.d (.bool true)))⟩])
 .ret))))))
theorem c30 : (Go.Proofs.Try.f30).body.bind (comp prog.P (2, (Go.Proofs.Try.f30).ntmps) lv30) = some m30 := by kernel_rfl
theorem r30 : resOK prog.P (Go.Proofs.Try.f30).results.toList = true := by kernel_rfl

/-- laws.heldAppealS -/
def lv31 : List (Nat × List Nat) := [(0, [0, 1]), (1, [0, 1, 5]), (2, [0, 1, 5, 9]), (3, [0, 1, 5]), (4, [0, 1, 5, 18]), (5, [4]), (6, [0, 1, 5]), (7, [0, 1, 5, 27]), (8, [4]), (9, [0, 1, 5]), (10, [0, 1, 5, 36]), (11, [4]), (12, [0, 1, 5]), (13, [0, 1, 5]), (14, [0, 1, 5, 47]), (15, [4]), (16, [0, 1, 5]), (17, [0, 1, 5, 56]), (18, [4]), (19, [0, 1, 5, 63]), (20, [4]), (21, [0, 1, 5]), (22, [4])]
def m31 : MC :=
  (.seq
 (.reg false [0, 1] [⟨(some 4), none, false, .mov (.k (.d (.int .i64 0)))⟩])
 (.seq
 (.seq
 (.reg false [0, 1, 5] [⟨(some 5), none, false, .mov (.k (.d (.int .i64 0)))⟩])
 (.block 0
 (.loop
 (.seq
 (.seq
 (.reg false [0, 1, 5, 9] [⟨(some 6), none, false, .mov (.t 5)⟩,
 ⟨(some 7), none, false, .mov (.t 0)⟩,
 ⟨(some 8), none, false, .len false (.t 7)⟩,
 ⟨(some 9), none, false, .bin .lss (.t 6) (.t 8)⟩])
 (.cond (.t 9)
 .skip
 (.exit 0)))
 (.seq
 (.block 1
 (.seq
 (.seq
 (.reg false [0, 1, 5, 18] [⟨(some 12), none, false, .mov (.t 0)⟩,
 ⟨(some 13), none, false, .mov (.t 5)⟩,
 ⟨(some 14), none, false, .ia 6 (.t 12) (.t 13)⟩,
 ⟨(some 15), none, false, .fa 0 0 (.t 14)⟩,
 ⟨(some 16), none, false, .ld none (.t 15)⟩,
 ⟨(some 17), none, false, .mov (.t 1)⟩,
 ⟨(some 18), none, false, .bin .neq (.t 16) (.t 17)⟩])
 (.cond (.t 18)
 (.seq
 (.reg false [4] [⟨(some 4), none, false, .mov (.k (.d (.int .i64 (-1))))⟩])
 .ret)
 .skip))
 (.seq
 (.reg false [0, 1, 5] [⟨(some 19), none, false, .mov (.t 1)⟩,
 ⟨(some 20), none, false, .bin .add (.t 19) (.k (.d (.int .i64 1)))⟩,
 ⟨(some 1), none, false, .mov (.t 20)⟩])
 (.seq
 (.seq
 (.reg false [0, 1, 5, 27] [⟨(some 21), none, false, .mov (.t 0)⟩,
 ⟨(some 22), none, false, .mov (.t 5)⟩,
 ⟨(some 23), none, false, .ia 6 (.t 21) (.t 22)⟩,
 ⟨(some 24), none, false, .fa 1 1 (.t 23)⟩,
 ⟨(some 25), none, false, .ld none (.t 24)⟩,
 ⟨(some 26), none, false, .mov (.t 1)⟩,
 ⟨(some 27), none, false, .bin .neq (.t 25) (.t 26)⟩])
 (.cond (.t 27)
 (.seq
 (.reg false [4] [⟨(some 4), none, false, .mov (.k (.d (.int .i64 (-1))))⟩])
 .ret)
 .skip))
 (.seq
 (.reg false [0, 1, 5] [⟨(some 28), none, false, .mov (.t 1)⟩,
 ⟨(some 29), none, false, .bin .add (.t 28) (.k (.d (.int .i64 1)))⟩,
 ⟨(some 1), none, false, .mov (.t 29)⟩])
 (.seq
 (.seq
 (.reg false [0, 1, 5, 36] [⟨(some 30), none, false, .mov (.t 0)⟩,
 ⟨(some 31), none, false, .mov (.t 5)⟩,
 ⟨(some 32), none, false, .ia 6 (.t 30) (.t 31)⟩,
 ⟨(some 33), none, false, .fa 2 2 (.t 32)⟩,
 ⟨(some 34), none, false, .ld none (.t 33)⟩,
 ⟨(some 35), none, false, .mov (.t 1)⟩,
 ⟨(some 36), none, false, .bin .neq (.t 34) (.t 35)⟩])
 (.cond (.t 36)
 (.seq
 (.reg false [4] [⟨(some 4), none, false, .mov (.k (.d (.int .i64 (-1))))⟩])
 .ret)
 .skip))
 (.seq
 (.reg false [0, 1, 5] [⟨(some 37), none, false, .mov (.t 1)⟩,
 ⟨(some 38), none, false, .bin .add (.t 37) (.k (.d (.int .i64 1)))⟩,
 ⟨(some 1), none, false, .mov (.t 38)⟩])
 (.seq
 (.reg false [0, 1, 5] [⟨(some 39), none, false, .mov (.t 0)⟩,
 ⟨(some 40), none, false, .mov (.t 5)⟩,
 ⟨(some 41), none, false, .ia 6 (.t 39) (.t 40)⟩,
 ⟨(some 42), none, false, .fa 3 3 (.t 41)⟩,
 ⟨(some 43), none, false, .ld none (.t 42)⟩,
 ⟨(some 44), none, false, .mov (.t 1)⟩,
 ⟨(some 45), none, true, .call 28 [(.t 43), (.t 44)]⟩,
 ⟨(some 1), none, false, .mov (.t 45)⟩])
 (.seq
 (.seq
 (.reg false [0, 1, 5, 47] [⟨(some 46), none, false, .mov (.t 1)⟩,
 ⟨(some 47), none, false, .bin .lss (.t 46) (.k (.d (.int .i64 0)))⟩])
 (.cond (.t 47)
 (.seq
 (.reg false [4] [⟨(some 4), none, false, .mov (.k (.d (.int .i64 (-1))))⟩])
 .ret)
 .skip))
 (.seq
 (.reg false [0, 1, 5] [⟨(some 48), none, false, .mov (.t 0)⟩,
 ⟨(some 49), none, false, .mov (.t 5)⟩,
 ⟨(some 50), none, false, .ia 6 (.t 48) (.t 49)⟩,
 ⟨(some 51), none, false, .fa 4 4 (.t 50)⟩,
 ⟨(some 52), none, false, .ld none (.t 51)⟩,
 ⟨(some 53), none, false, .mov (.t 1)⟩,
 ⟨(some 54), none, true, .call 28 [(.t 52), (.t 53)]⟩,
 ⟨(some 1), none, false, .mov (.t 54)⟩])
 (.seq
 (.seq
 (.reg false [0, 1, 5, 56] [⟨(some 55), none, false, .mov (.t 1)⟩,
 ⟨(some 56), none, false, .bin .lss (.t 55) (.k (.d (.int .i64 0)))⟩])
 (.cond (.t 56)
 (.seq
 (.reg false [4] [⟨(some 4), none, false, .mov (.k (.d (.int .i64 (-1))))⟩])
 .ret)
 .skip))
 (.seq
 (.seq
 (.reg false [0, 1, 5, 63] [⟨(some 57), none, false, .mov (.t 0)⟩,
 ⟨(some 58), none, false, .mov (.t 5)⟩,
 ⟨(some 59), none, false, .ia 6 (.t 57) (.t 58)⟩,
 ⟨(some 60), none, false, .fa 5 5 (.t 59)⟩,
 ⟨(some 61), none, false, .ld none (.t 60)⟩,
 ⟨(some 62), none, false, .mov (.t 1)⟩,
 ⟨(some 63), none, false, .bin .neq (.t 61) (.t 62)⟩])
 (.cond (.t 63)
 (.seq
 (.reg false [4] [⟨(some 4), none, false, .mov (.k (.d (.int .i64 (-1))))⟩])
 .ret)
 .skip))
 (.reg false [0, 1, 5] [⟨(some 64), none, false, .mov (.t 1)⟩,
 ⟨(some 65), none, false, .bin .add (.t 64) (.k (.d (.int .i64 1)))⟩,
 ⟨(some 1), none, false, .mov (.t 65)⟩])))))))))))))
 (.reg false [0, 1, 5] [⟨(some 10), none, false, .mov (.t 5)⟩,
 ⟨(some 11), none, false, .bin .add (.t 10) (.k (.d (.int .i64 1)))⟩,
 ⟨(some 5), none, false, .mov (.t 11)⟩]))))))
 (.seq
 (.reg false [4] [⟨(some 66), none, false, .mov (.t 1)⟩,
 ⟨(some 4), none, false, .mov (.t 66)⟩])
 .ret)))
theorem c31 : (Go.Proofs.Try.f31).body.bind (comp prog.P (1, (Go.Proofs.Try.f31).ntmps) lv31) = some m31 := by kernel_rfl
theorem r31 : resOK prog.P (Go.Proofs.Try.f31).results.toList = true := by kernel_rfl

/-- spec.NewAppeal -/
def lv32 : List (Nat × List Nat) := [(0, [0, 1, 2, 3]), (1, [0, 3, 11]), (2, [0, 3, 11, 12]), (3, [0, 3, 11, 12, 22]), (4, [0, 3, 11]), (5, [0, 11, 33]), (6, [0, 11]), (7, [11, 13]), (8, [11, 13, 42]), (9, [8, 9, 10]), (10, [8, 9, 10]), (1000007, [0, 1, 0, 1, 2, 3, 2, 1, 2, 3, 2, 4, 1, 5, 0, 2, 3, 2, 1, 2, 4, 1, 5, 0])]
def m32 : MC :=
  (.seq
 (.reg false [0, 1, 2, 3] [⟨(some 8), none, false, .mov (.k .nil)⟩,
 ⟨(some 9), none, false, .mov (.k (.d (.int .i64 0)))⟩,
 ⟨(some 10), none, false, .mov (.k (.d (.bool false)))⟩])
 (.seq
 (.reg false [0, 3, 11] [⟨(some 14), none, false, .mov (.t 1)⟩,
 ⟨(some 15), none, false, .mov (.t 2)⟩,
 ⟨(some 16), none, false, .mov (.t 3)⟩,
 ⟨(some 17), none, true, .call 76 [(.t 16)]⟩,
 ⟨(some 18), none, true, .bld (.cons (.int .i64 0) (.cons (.int .i64 0) (.cons (.int .i64 0) (.cons (.sl true 1 .nil) (.cons (.sl true 1 .nil) (.cons (.int .i64 0) .nil)))))) [(0, (.k (.d (.int .i64 1)))), (1, (.t 14)), (2, (.t 15)), (3, (.t 17))]⟩,
 ⟨(some 11), none, true, .alloc (.st (.cons (.int .i64 0) (.cons (.int .i64 0) (.cons (.int .i64 0) (.cons (.sl true 1 .nil) (.cons (.sl true 1 .nil) (.cons (.int .i64 0) .nil)))))))⟩,
 ⟨none, none, true, .st 6 (.t 11) (.t 18)⟩])
 (.seq
 (.seq
 (.reg false [0, 3, 11, 12] [⟨(some 19), none, false, .mov (.t 0)⟩,
 ⟨(some 20), none, false, .len false (.t 19)⟩,
 ⟨(some 12), none, false, .mov (.t 20)⟩])
 (.seq
 (.reg false [0, 3, 11, 12, 22] [⟨(some 21), none, false, .mov (.t 12)⟩,
 ⟨(some 22), none, false, .bin .gtr (.t 21) (.k (.d (.int .i64 0)))⟩])
 (.cond (.t 22)
 (.reg false [0, 3, 11] [⟨(some 23), none, false, .mov (.t 0)⟩,
 ⟨(some 24), none, false, .mov (.t 12)⟩,
 ⟨(some 25), none, false, .bin .sub (.t 24) (.k (.d (.int .i64 1)))⟩,
 ⟨(some 26), none, false, .ia 6 (.t 23) (.t 25)⟩,
 ⟨(some 27), none, false, .fa 0 0 (.t 26)⟩,
 ⟨(some 28), none, false, .ld none (.t 27)⟩,
 ⟨(some 29), none, false, .bin .add (.t 28) (.k (.d (.int .i64 1)))⟩,
 ⟨(some 30), none, false, .fa 0 0 (.t 11)⟩,
 ⟨none, none, true, .st 1 (.t 30) (.t 29)⟩])
 .skip)))
 (.seq
 (.seq
 (.reg false [0, 11, 33] [⟨(some 31), none, false, .mov (.t 3)⟩,
 ⟨(some 32), none, false, .len false (.t 31)⟩,
 ⟨(some 33), none, false, .bin .eql (.t 32) (.k (.d (.int .i64 0)))⟩])
 (.cond (.t 33)
 (.reg false [0, 11] [⟨(some 34), none, false, .fa 5 5 (.t 11)⟩,
 ⟨none, none, true, .st 1 (.t 34) (.k (.d (.int .i64 1)))⟩])
 .skip))
 (.seq
 (.any [] [11, 13] (.q 0 ⟨(some 35), none, false, .mov (.t 0)⟩ (.q 2 ⟨(some 37), none, false, .ld (some 6) (.t 11)⟩ (.br (.e 1 ⟨(some 36), none, true, .call 73 [(.t 35)]⟩ (.e 3 ⟨(some 38), none, true, .bs 6 1 (.st (.cons (.int .i64 0) (.cons (.int .i64 0) (.cons (.int .i64 0) (.cons (.sl true 1 .nil) (.cons (.sl true 1 .nil) (.cons (.int .i64 0) .nil))))))) [(0, (.t 37))]⟩ (.e 4 ⟨(some 39), none, true, .app 6 80 (.t 36) (.t 38)⟩ (.q 5 ⟨(some 13), none, false, .mov (.t 39)⟩ .done))))
 (.e 3 ⟨(some 38), none, true, .bs 6 1 (.st (.cons (.int .i64 0) (.cons (.int .i64 0) (.cons (.int .i64 0) (.cons (.sl true 1 .nil) (.cons (.sl true 1 .nil) (.cons (.int .i64 0) .nil))))))) [(0, (.t 37))]⟩ (.e 1 ⟨(some 36), none, true, .call 73 [(.t 35)]⟩ (.e 4 ⟨(some 39), none, true, .app 6 80 (.t 36) (.t 38)⟩ (.q 5 ⟨(some 13), none, false, .mov (.t 39)⟩ .done))))))))
 (.seq
 (.seq
 (.reg false [11, 13, 42] [⟨(some 40), none, false, .mov (.t 13)⟩,
 ⟨(some 41), none, true, .call 54 [(.t 40)]⟩,
 ⟨(some 42), none, false, .un .not (.t 41)⟩])
 (.cond (.t 42)
 (.seq
 (.reg false [8, 9, 10] [⟨(some 43), none, true, .bs 6 0 (.st (.cons (.int .i64 0) (.cons (.int .i64 0) (.cons (.int .i64 0) (.cons (.sl true 1 .nil) (.cons (.sl true 1 .nil) (.cons (.int .i64 0) .nil))))))) []⟩,
 ⟨(some 8), none, false, .mov (.t 43)⟩,
 ⟨(some 9), none, false, .mov (.k (.d (.int .i64 0)))⟩,
 ⟨(some 10), none, false, .mov (.k (.d (.bool false)))⟩])
 .ret)
 .skip))
 (.seq
 (.reg true [8, 9, 10] [⟨(some 44), none, false, .mov (.t 13)⟩,
 ⟨(some 45), none, false, .fa 0 0 (.t 11)⟩,
 ⟨(some 46), none, false, .ld none (.t 45)⟩,
 ⟨(some 8), none, false, .mov (.t 44)⟩,
 ⟨(some 9), none, false, .mov (.t 46)⟩,
 ⟨(some 10), none, false, .mov (.k (.d (.bool true)))⟩])
 .ret)))))))
theorem c32 : (Go.Proofs.Try.f32).body.bind (comp prog.P (4, (Go.Proofs.Try.f32).ntmps) lv32) = some m32 := by kernel_rfl
theorem r32 : resOK prog.P (Go.Proofs.Try.f32).results.toList = true := by kernel_rfl

end Go.Pe.Try
