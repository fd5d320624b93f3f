/-
The compact code of the functions that the law reaches, printed by gen.py, each with the proof that the machine's code is compiled to it.
-/
import Derived.Test.YtbkjloohaahmdaaPeC
import Derived.Test.YtbkjloohaahmdaaProg
import Derived.KernelRfl
set_option maxRecDepth 100000
namespace Go.Pe.Try
open Go.Pe

/-- the program; of its start-up memory nothing is asked. -/
noncomputable def prog : PG := ⟨Go.Proofs.Try.prog, fun _ => True, fun _ _ _ _ h => h⟩

theorem sz66 : sizeOfT prog.P 66 = some 6 := by kernel_rfl

/-- laws.FnParties -/
def lv5 : List (Nat × List Nat) := [(0, [0]), (1, [0, 47]), (2, [2]), (3, [0, 3, 4]), (4, [0, 3, 4, 5, 6]), (5, [0, 3, 4, 5, 6, 7, 8]), (6, [0, 3, 4, 5, 73]), (7, [2]), (8, [0, 3, 4, 5, 9]), (9, [0, 3, 4, 5, 9, 77]), (10, [0, 3, 4, 5, 9]), (11, [0, 3, 4, 5, 9, 10, 11]), (12, [0, 3, 4, 5, 9, 96]), (13, [2]), (14, [0, 12, 13]), (15, [0, 12, 13, 14, 15, 16]), (16, [0, 13, 14, 15, 16, 17, 18, 19]), (17, [0, 13, 14, 16, 130]), (18, [2]), (19, [0, 13, 14, 131]), (20, [0, 14, 20, 21, 22]), (21, [0, 151]), (22, [2]), (23, [0, 23, 24, 25]), (24, [0, 23, 24, 25, 26, 27]), (25, [0, 23, 24, 25, 26, 27, 28, 29]), (26, [0, 23, 24, 25, 26, 27, 187]), (27, [2]), (28, [0, 23, 24, 25, 26, 188]), (29, [0, 24, 26, 31, 32]), (30, [0, 205]), (31, [2]), (32, [33]), (33, [33, 34, 35, 36]), (34, [33, 34, 35, 36, 37, 38, 39]), (35, [33, 232]), (36, [2]), (37, [33, 40, 41, 42]), (38, [40, 41, 42, 43, 44, 45]), (39, [2])]
def m5 : MC :=
  (.seq
 (.reg false [0] [⟨(some 2), none, false, .mov (.k (.d (.bool false)))⟩])
 (.seq
 (.seq
 (.reg false [0, 47] [⟨(some 46), none, false, .mov (.t 0)⟩,
 ⟨(some 47), none, true, .call 16 [(.t 46)]⟩])
 (.cond (.t 47)
 (.seq
 (.reg false [2] [⟨(some 2), none, false, .mov (.k (.d (.bool true)))⟩])
 .ret)
 .skip))
 (.seq
 (.reg false [0, 3, 4] [⟨(some 49), none, false, .mov (.t 0)⟩,
 ⟨(some 50), none, true, .call 32 [(.t 49)]⟩,
 ⟨(some 48), none, false, .mov (.t 50)⟩,
 ⟨(some 51), none, false, .ext (.t 48) 0⟩,
 ⟨(some 52), none, false, .ext (.t 48) 1⟩,
 ⟨(some 3), none, false, .mov (.t 51)⟩,
 ⟨(some 4), none, false, .mov (.t 52)⟩])
 (.seq
 (.reg false [0, 3, 4, 5, 6] [⟨(some 54), none, false, .mov (.t 3)⟩,
 ⟨(some 55), none, false, .mov (.t 4)⟩,
 ⟨(some 56), none, true, .call 33 [(.t 54), (.t 55)]⟩,
 ⟨(some 53), none, false, .mov (.t 56)⟩,
 ⟨(some 57), none, false, .ext (.t 53) 0⟩,
 ⟨(some 58), none, false, .ext (.t 53) 1⟩,
 ⟨(some 5), none, false, .mov (.t 57)⟩,
 ⟨(some 6), none, false, .mov (.t 58)⟩])
 (.seq
 (.seq
 (.reg false [0, 3, 4, 5, 6, 7, 8] [⟨(some 60), none, false, .mov (.t 3)⟩,
 ⟨(some 61), none, false, .mov (.t 4)⟩,
 ⟨(some 62), none, true, .call 34 [(.t 60), (.t 61)]⟩,
 ⟨(some 59), none, false, .mov (.t 62)⟩,
 ⟨(some 63), none, false, .ext (.t 59) 0⟩,
 ⟨(some 64), none, false, .ext (.t 59) 1⟩,
 ⟨(some 7), none, false, .mov (.t 63)⟩,
 ⟨(some 8), none, false, .mov (.t 64)⟩])
 (.seq
 (.reg false [0, 3, 4, 5, 73] [⟨(some 65), none, false, .mov (.t 6)⟩,
 ⟨(some 66), none, false, .mov (.t 8)⟩,
 ⟨(some 67), none, false, .bb .neq (.t 65) (.t 66)⟩,
 ⟨(some 68), none, false, .mov (.t 67)⟩,
 ⟨(some 69), (some (68, false)), false, .mov (.t 5)⟩,
 ⟨(some 70), (some (68, false)), false, .mov (.t 7)⟩,
 ⟨(some 71), (some (68, false)), true, .call 27 [(.t 69), (.t 70)]⟩,
 ⟨(some 72), (some (68, false)), false, .un .not (.t 71)⟩,
 ⟨(some 73), none, false, .pick (.t 68) (.k (.d (.bool true))) (.t 72)⟩])
 (.cond (.t 73)
 (.seq
 (.reg false [2] [⟨(some 2), none, false, .mov (.k (.d (.bool false)))⟩])
 .ret)
 .skip)))
 (.seq
 (.seq
 (.reg false [0, 3, 4, 5, 9] [⟨(some 9), none, false, .mov (.k (.d (.int .i64 0)))⟩])
 (.block 0
 (.loop
 (.seq
 (.seq
 (.reg false [0, 3, 4, 5, 9, 77] [⟨(some 74), none, false, .mov (.t 9)⟩,
 ⟨(some 75), none, false, .mov (.t 5)⟩,
 ⟨(some 76), none, false, .len false (.t 75)⟩,
 ⟨(some 77), none, false, .bin .lss (.t 74) (.t 76)⟩])
 (.cond (.t 77)
 .skip
 (.exit 0)))
 (.seq
 (.block 1
 (.seq
 (.reg false [0, 3, 4, 5, 9, 10, 11] [⟨(some 81), none, false, .mov (.t 3)⟩,
 ⟨(some 82), none, false, .mov (.t 5)⟩,
 ⟨(some 83), none, false, .mov (.t 9)⟩,
 ⟨(some 84), none, false, .ia 1 (.t 82) (.t 83)⟩,
 ⟨(some 85), none, false, .ld none (.t 84)⟩,
 ⟨(some 86), none, true, .call 10 [(.t 81), (.t 85)]⟩,
 ⟨(some 80), none, false, .mov (.t 86)⟩,
 ⟨(some 87), none, false, .ext (.t 80) 0⟩,
 ⟨(some 88), none, false, .ext (.t 80) 1⟩,
 ⟨(some 10), none, false, .mov (.t 87)⟩,
 ⟨(some 11), none, false, .mov (.t 88)⟩])
 (.seq
 (.reg false [0, 3, 4, 5, 9, 96] [⟨(some 89), none, false, .mov (.t 11)⟩,
 ⟨(some 90), none, false, .un .not (.t 89)⟩,
 ⟨(some 91), none, false, .mov (.t 90)⟩,
 ⟨(some 92), (some (91, false)), false, .mov (.t 10)⟩,
 ⟨(some 93), (some (91, false)), false, .mov (.t 4)⟩,
 ⟨(some 94), (some (91, false)), true, .call 28 [(.t 92), (.t 93)]⟩,
 ⟨(some 95), (some (91, false)), false, .un .not (.t 94)⟩,
 ⟨(some 96), none, false, .pick (.t 91) (.k (.d (.bool true))) (.t 95)⟩])
 (.cond (.t 96)
 (.seq
 (.reg false [2] [⟨(some 2), none, false, .mov (.k (.d (.bool false)))⟩])
 .ret)
 .skip))))
 (.reg false [0, 3, 4, 5, 9] [⟨(some 78), none, false, .mov (.t 9)⟩,
 ⟨(some 79), none, false, .bin .add (.t 78) (.k (.d (.int .i64 1)))⟩,
 ⟨(some 9), none, false, .mov (.t 79)⟩]))))))
 (.seq
 (.reg false [0, 12, 13] [⟨(some 98), none, false, .mov (.t 0)⟩,
 ⟨(some 99), none, true, .call 35 [(.t 98)]⟩,
 ⟨(some 97), none, false, .mov (.t 99)⟩,
 ⟨(some 100), none, false, .ext (.t 97) 0⟩,
 ⟨(some 101), none, false, .ext (.t 97) 1⟩,
 ⟨(some 12), none, false, .mov (.t 100)⟩,
 ⟨(some 13), none, false, .mov (.t 101)⟩])
 (.seq
 (.reg false [0, 12, 13, 14, 15, 16] [⟨(some 103), none, false, .mov (.t 12)⟩,
 ⟨(some 104), none, false, .mov (.t 13)⟩,
 ⟨(some 105), none, true, .call 36 [(.t 103), (.t 104)]⟩,
 ⟨(some 102), none, false, .mov (.t 105)⟩,
 ⟨(some 106), none, false, .ext (.t 102) 0⟩,
 ⟨(some 107), none, false, .ext (.t 102) 1⟩,
 ⟨(some 108), none, false, .ext (.t 102) 2⟩,
 ⟨(some 14), none, false, .mov (.t 106)⟩,
 ⟨(some 15), none, false, .mov (.t 107)⟩,
 ⟨(some 16), none, false, .mov (.t 108)⟩])
 (.seq
 (.seq
 (.reg false [0, 13, 14, 15, 16, 17, 18, 19] [⟨(some 110), none, false, .mov (.t 12)⟩,
 ⟨(some 111), none, false, .mov (.t 13)⟩,
 ⟨(some 112), none, true, .call 37 [(.t 110), (.t 111)]⟩,
 ⟨(some 109), none, false, .mov (.t 112)⟩,
 ⟨(some 113), none, false, .ext (.t 109) 0⟩,
 ⟨(some 114), none, false, .ext (.t 109) 1⟩,
 ⟨(some 115), none, false, .ext (.t 109) 2⟩,
 ⟨(some 17), none, false, .mov (.t 113)⟩,
 ⟨(some 18), none, false, .mov (.t 114)⟩,
 ⟨(some 19), none, false, .mov (.t 115)⟩])
 (.seq
 (.reg false [0, 13, 14, 16, 130] [⟨(some 116), none, false, .mov (.t 16)⟩,
 ⟨(some 117), none, false, .mov (.t 19)⟩,
 ⟨(some 118), none, false, .bb .neq (.t 116) (.t 117)⟩,
 ⟨(some 119), none, false, .mov (.t 118)⟩,
 ⟨(some 120), (some (119, false)), false, .mov (.t 14)⟩,
 ⟨(some 121), (some (119, false)), false, .mov (.t 17)⟩,
 ⟨(some 122), (some (119, false)), true, .call 38 [(.t 120), (.t 121)]⟩,
 ⟨(some 123), (some (119, false)), false, .un .not (.t 122)⟩,
 ⟨(some 124), none, false, .pick (.t 119) (.k (.d (.bool true))) (.t 123)⟩,
 ⟨(some 125), none, false, .mov (.t 124)⟩,
 ⟨(some 126), (some (125, false)), false, .mov (.t 15)⟩,
 ⟨(some 127), (some (125, false)), false, .mov (.t 18)⟩,
 ⟨(some 128), (some (125, false)), true, .call 27 [(.t 126), (.t 127)]⟩,
 ⟨(some 129), (some (125, false)), false, .un .not (.t 128)⟩,
 ⟨(some 130), none, false, .pick (.t 125) (.k (.d (.bool true))) (.t 129)⟩])
 (.cond (.t 130)
 (.seq
 (.reg false [2] [⟨(some 2), none, false, .mov (.k (.d (.bool false)))⟩])
 .ret)
 .skip)))
 (.seq
 (.seq
 (.reg false [0, 13, 14, 131] [⟨(some 131), none, false, .mov (.t 16)⟩])
 (.cond (.t 131)
 (.seq
 (.reg false [0, 14, 20, 21, 22] [⟨(some 133), none, false, .mov (.t 14)⟩,
 ⟨(some 134), none, false, .mov (.t 13)⟩,
 ⟨(some 135), none, true, .call 36 [(.t 133), (.t 134)]⟩,
 ⟨(some 132), none, false, .mov (.t 135)⟩,
 ⟨(some 136), none, false, .ext (.t 132) 0⟩,
 ⟨(some 137), none, false, .ext (.t 132) 1⟩,
 ⟨(some 138), none, false, .ext (.t 132) 2⟩,
 ⟨(some 20), none, false, .mov (.t 136)⟩,
 ⟨(some 21), none, false, .mov (.t 137)⟩,
 ⟨(some 22), none, false, .mov (.t 138)⟩])
 (.seq
 (.reg false [0, 151] [⟨(some 139), none, false, .mov (.t 22)⟩,
 ⟨(some 140), none, false, .un .not (.t 139)⟩,
 ⟨(some 141), none, false, .mov (.t 140)⟩,
 ⟨(some 142), (some (141, false)), false, .mov (.t 21)⟩,
 ⟨(some 143), (some (141, false)), false, .len false (.t 142)⟩,
 ⟨(some 144), (some (141, false)), false, .bin .neq (.t 143) (.k (.d (.int .i64 0)))⟩,
 ⟨(some 145), none, false, .pick (.t 141) (.k (.d (.bool true))) (.t 144)⟩,
 ⟨(some 146), none, false, .mov (.t 145)⟩,
 ⟨(some 147), (some (146, false)), false, .mov (.t 20)⟩,
 ⟨(some 148), (some (146, false)), false, .mov (.t 14)⟩,
 ⟨(some 149), (some (146, false)), true, .call 38 [(.t 147), (.t 148)]⟩,
 ⟨(some 150), (some (146, false)), false, .un .not (.t 149)⟩,
 ⟨(some 151), none, false, .pick (.t 146) (.k (.d (.bool true))) (.t 150)⟩])
 (.cond (.t 151)
 (.seq
 (.reg false [2] [⟨(some 2), none, false, .mov (.k (.d (.bool false)))⟩])
 .ret)
 .skip)))
 .skip))
 (.seq
 (.reg false [0, 23, 24, 25] [⟨(some 153), none, false, .mov (.t 0)⟩,
 ⟨(some 154), none, true, .call 39 [(.t 153)]⟩,
 ⟨(some 152), none, false, .mov (.t 154)⟩,
 ⟨(some 155), none, false, .ext (.t 152) 0⟩,
 ⟨(some 156), none, false, .ext (.t 152) 1⟩,
 ⟨(some 157), none, false, .ext (.t 152) 2⟩,
 ⟨(some 23), none, false, .mov (.t 155)⟩,
 ⟨(some 24), none, false, .mov (.t 156)⟩,
 ⟨(some 25), none, false, .mov (.t 157)⟩])
 (.seq
 (.reg false [0, 23, 24, 25, 26, 27] [⟨(some 159), none, false, .mov (.t 23)⟩,
 ⟨(some 160), none, false, .mov (.t 24)⟩,
 ⟨(some 161), none, false, .mov (.t 25)⟩,
 ⟨(some 162), none, true, .call 40 [(.t 159), (.t 160), (.t 161)]⟩,
 ⟨(some 158), none, false, .mov (.t 162)⟩,
 ⟨(some 163), none, false, .ext (.t 158) 0⟩,
 ⟨(some 164), none, false, .ext (.t 158) 1⟩,
 ⟨(some 26), none, false, .mov (.t 163)⟩,
 ⟨(some 27), none, false, .mov (.t 164)⟩])
 (.seq
 (.seq
 (.reg false [0, 23, 24, 25, 26, 27, 28, 29] [⟨(some 166), none, false, .mov (.t 23)⟩,
 ⟨(some 167), none, false, .mov (.t 24)⟩,
 ⟨(some 168), none, false, .mov (.t 25)⟩,
 ⟨(some 169), none, true, .call 41 [(.t 166), (.t 167), (.t 168)]⟩,
 ⟨(some 165), none, false, .mov (.t 169)⟩,
 ⟨(some 170), none, false, .ext (.t 165) 0⟩,
 ⟨(some 171), none, false, .ext (.t 165) 1⟩,
 ⟨(some 28), none, false, .mov (.t 170)⟩,
 ⟨(some 29), none, false, .mov (.t 171)⟩])
 (.seq
 (.reg false [0, 23, 24, 25, 26, 27, 187] [⟨(some 172), none, false, .mov (.t 26)⟩,
 ⟨(some 173), none, false, .mov (.t 28)⟩,
 ⟨(some 174), none, false, .bin .neq (.t 172) (.t 173)⟩,
 ⟨(some 175), none, false, .mov (.t 174)⟩,
 ⟨(some 176), (some (175, false)), false, .mov (.t 27)⟩,
 ⟨(some 177), (some (175, false)), false, .mov (.t 29)⟩,
 ⟨(some 178), (some (175, false)), false, .bb .neq (.t 176) (.t 177)⟩,
 ⟨(some 179), none, false, .pick (.t 175) (.k (.d (.bool true))) (.t 178)⟩,
 ⟨(some 180), none, false, .mov (.t 179)⟩,
 ⟨(some 181), (some (180, false)), false, .mov (.t 26)⟩,
 ⟨(some 182), (some (180, false)), false, .bin .lss (.t 181) (.k (.d (.int .i64 0)))⟩,
 ⟨(some 183), none, false, .pick (.t 180) (.k (.d (.bool true))) (.t 182)⟩,
 ⟨(some 184), none, false, .mov (.t 183)⟩,
 ⟨(some 185), (some (184, false)), false, .mov (.t 26)⟩,
 ⟨(some 186), (some (184, false)), false, .bin .gtr (.t 185) (.k (.d (.int .i64 60)))⟩,
 ⟨(some 187), none, false, .pick (.t 184) (.k (.d (.bool true))) (.t 186)⟩])
 (.cond (.t 187)
 (.seq
 (.reg false [2] [⟨(some 2), none, false, .mov (.k (.d (.bool false)))⟩])
 .ret)
 .skip)))
 (.seq
 (.seq
 (.reg false [0, 23, 24, 25, 26, 188] [⟨(some 188), none, false, .mov (.t 27)⟩])
 (.cond (.t 188)
 (.seq
 (.reg false [0, 24, 26, 31, 32] [⟨(some 190), none, false, .mov (.t 23)⟩,
 ⟨(some 191), none, false, .mov (.t 25)⟩,
 ⟨(some 192), none, false, .bin .add (.t 191) (.k (.d (.int .i64 1)))⟩,
 ⟨(some 193), none, true, .call 36 [(.t 190), (.t 192)]⟩,
 ⟨(some 189), none, false, .mov (.t 193)⟩,
 ⟨(some 194), none, false, .ext (.t 189) 0⟩,
 ⟨(some 195), none, false, .ext (.t 189) 1⟩,
 ⟨(some 196), none, false, .ext (.t 189) 2⟩,
 ⟨(some 30), none, false, .mov (.t 194)⟩,
 ⟨(some 31), none, false, .mov (.t 195)⟩,
 ⟨(some 32), none, false, .mov (.t 196)⟩])
 (.seq
 (.reg false [0, 205] [⟨(some 197), none, false, .mov (.t 32)⟩,
 ⟨(some 198), none, false, .mov (.t 197)⟩,
 ⟨(some 199), (some (198, true)), false, .mov (.t 31)⟩,
 ⟨(some 200), (some (198, true)), false, .mov (.t 24)⟩,
 ⟨(some 201), (some (198, true)), true, .call 28 [(.t 199), (.t 200)]⟩,
 ⟨(some 202), (some (198, true)), false, .mov (.t 26)⟩,
 ⟨(some 203), (some (198, true)), false, .bin .eql (.t 202) (.k (.d (.int .i64 0)))⟩,
 ⟨(some 204), (some (198, true)), false, .bb .neq (.t 201) (.t 203)⟩,
 ⟨(some 205), none, false, .pick (.t 198) (.t 204) (.k (.d (.bool false)))⟩])
 (.cond (.t 205)
 (.seq
 (.reg false [2] [⟨(some 2), none, false, .mov (.k (.d (.bool false)))⟩])
 .ret)
 .skip)))
 .skip))
 (.seq
 (.reg false [33] [⟨(some 206), none, false, .mov (.t 0)⟩,
 ⟨(some 207), none, true, .call 42 [(.t 206)]⟩,
 ⟨(some 33), none, false, .mov (.t 207)⟩])
 (.seq
 (.reg false [33, 34, 35, 36] [⟨(some 209), none, false, .mov (.t 33)⟩,
 ⟨(some 210), none, true, .call 43 [(.t 209)]⟩,
 ⟨(some 208), none, false, .mov (.t 210)⟩,
 ⟨(some 211), none, false, .ext (.t 208) 0⟩,
 ⟨(some 212), none, false, .ext (.t 208) 1⟩,
 ⟨(some 213), none, false, .ext (.t 208) 2⟩,
 ⟨(some 34), none, false, .mov (.t 211)⟩,
 ⟨(some 35), none, false, .mov (.t 212)⟩,
 ⟨(some 36), none, false, .mov (.t 213)⟩])
 (.seq
 (.seq
 (.reg false [33, 34, 35, 36, 37, 38, 39] [⟨(some 215), none, false, .mov (.t 33)⟩,
 ⟨(some 216), none, true, .call 44 [(.t 215)]⟩,
 ⟨(some 214), none, false, .mov (.t 216)⟩,
 ⟨(some 217), none, false, .ext (.t 214) 0⟩,
 ⟨(some 218), none, false, .ext (.t 214) 1⟩,
 ⟨(some 219), none, false, .ext (.t 214) 2⟩,
 ⟨(some 37), none, false, .mov (.t 217)⟩,
 ⟨(some 38), none, false, .mov (.t 218)⟩,
 ⟨(some 39), none, false, .mov (.t 219)⟩])
 (.seq
 (.reg false [33, 232] [⟨(some 220), none, false, .mov (.t 34)⟩,
 ⟨(some 221), none, false, .mov (.t 37)⟩,
 ⟨(some 222), none, false, .bin .neq (.t 220) (.t 221)⟩,
 ⟨(some 223), none, false, .mov (.t 222)⟩,
 ⟨(some 224), (some (223, false)), false, .mov (.t 35)⟩,
 ⟨(some 225), (some (223, false)), false, .mov (.t 38)⟩,
 ⟨(some 226), (some (223, false)), false, .bin .neq (.t 224) (.t 225)⟩,
 ⟨(some 227), none, false, .pick (.t 223) (.k (.d (.bool true))) (.t 226)⟩,
 ⟨(some 228), none, false, .mov (.t 227)⟩,
 ⟨(some 229), (some (228, false)), false, .mov (.t 36)⟩,
 ⟨(some 230), (some (228, false)), false, .mov (.t 39)⟩,
 ⟨(some 231), (some (228, false)), false, .bb .neq (.t 229) (.t 230)⟩,
 ⟨(some 232), none, false, .pick (.t 228) (.k (.d (.bool true))) (.t 231)⟩])
 (.cond (.t 232)
 (.seq
 (.reg false [2] [⟨(some 2), none, false, .mov (.k (.d (.bool false)))⟩])
 .ret)
 .skip)))
 (.seq
 (.reg false [33, 40, 41, 42] [⟨(some 234), none, false, .mov (.t 33)⟩,
 ⟨(some 235), none, true, .call 45 [(.t 234)]⟩,
 ⟨(some 233), none, false, .mov (.t 235)⟩,
 ⟨(some 236), none, false, .ext (.t 233) 0⟩,
 ⟨(some 237), none, false, .ext (.t 233) 1⟩,
 ⟨(some 238), none, false, .ext (.t 233) 2⟩,
 ⟨(some 40), none, false, .mov (.t 236)⟩,
 ⟨(some 41), none, false, .mov (.t 237)⟩,
 ⟨(some 42), none, false, .mov (.t 238)⟩])
 (.seq
 (.reg false [40, 41, 42, 43, 44, 45] [⟨(some 240), none, false, .mov (.t 33)⟩,
 ⟨(some 241), none, true, .call 46 [(.t 240)]⟩,
 ⟨(some 239), none, false, .mov (.t 241)⟩,
 ⟨(some 242), none, false, .ext (.t 239) 0⟩,
 ⟨(some 243), none, false, .ext (.t 239) 1⟩,
 ⟨(some 244), none, false, .ext (.t 239) 2⟩,
 ⟨(some 43), none, false, .mov (.t 242)⟩,
 ⟨(some 44), none, false, .mov (.t 243)⟩,
 ⟨(some 45), none, false, .mov (.t 244)⟩])
 (.seq
 (.reg false [2] [⟨(some 245), none, false, .mov (.t 40)⟩,
 ⟨(some 246), none, false, .mov (.t 43)⟩,
 ⟨(some 247), none, false, .bin .eql (.t 245) (.t 246)⟩,
 ⟨(some 248), none, false, .mov (.t 247)⟩,
 ⟨(some 249), (some (248, true)), false, .mov (.t 41)⟩,
 ⟨(some 250), (some (248, true)), false, .mov (.t 44)⟩,
 ⟨(some 251), (some (248, true)), false, .bin .eql (.t 249) (.t 250)⟩,
 ⟨(some 252), none, false, .pick (.t 248) (.t 251) (.k (.d (.bool false)))⟩,
 ⟨(some 253), none, false, .mov (.t 252)⟩,
 ⟨(some 254), (some (253, true)), false, .mov (.t 42)⟩,
 ⟨(some 255), (some (253, true)), false, .mov (.t 45)⟩,
 ⟨(some 256), (some (253, true)), false, .bb .eql (.t 254) (.t 255)⟩,
 ⟨(some 257), none, false, .pick (.t 253) (.t 256) (.k (.d (.bool false)))⟩,
 ⟨(some 258), none, false, .mov (.t 257)⟩,
 ⟨(some 259), (some (258, true)), false, .mov (.t 42)⟩,
 ⟨(some 260), (some (258, true)), false, .un .not (.t 259)⟩,
 ⟨(some 261), (some (258, true)), false, .mov (.t 260)⟩,
 ⟨(some 262), (some (261, false)), false, .mov (.t 40)⟩,
 ⟨(some 263), (some (261, false)), false, .mov (.t 41)⟩,
 ⟨(some 264), (some (261, false)), false, .bin .leq (.t 262) (.t 263)⟩,
 ⟨(some 265), (some (258, true)), false, .pick (.t 261) (.k (.d (.bool true))) (.t 264)⟩,
 ⟨(some 266), none, false, .pick (.t 258) (.t 265) (.k (.d (.bool false)))⟩,
 ⟨(some 2), none, false, .mov (.t 266)⟩])
 .ret))))))))))))))))))))
theorem c5 : (Go.Proofs.Try.f5).body.bind (comp prog.P (1, (Go.Proofs.Try.f5).ntmps) lv5) = some m5 := by kernel_rfl
theorem r5 : resOK prog.P (Go.Proofs.Try.f5).results.toList = true := by kernel_rfl

/-- impl.NotHeard -/
def lv10 : List (Nat × List Nat) := [(0, [1, 2]), (1, [2, 6]), (2, [2, 6, 16]), (3, [4, 5]), (4, [4, 5])]
def m10 : MC :=
  (.seq
 (.reg false [1, 2] [⟨(some 2), none, true, .box (.t 0)⟩,
 ⟨(some 4), none, false, .mov (.k .nil)⟩,
 ⟨(some 5), none, false, .mov (.k (.d (.bool false)))⟩])
 (.seq
 (.reg false [2, 6] [⟨(some 7), none, false, .ld none (.t 2)⟩,
 ⟨(some 8), none, false, .mov (.t 1)⟩,
 ⟨(some 9), none, true, .call 66 [(.t 7), (.t 8)]⟩,
 ⟨(some 6), none, true, .alloc (.int .i64 0)⟩,
 ⟨none, none, true, .st 1 (.t 6) (.t 9)⟩])
 (.seq
 (.seq
 (.reg false [2, 6, 16] [⟨(some 10), none, false, .ld none (.t 2)⟩,
 ⟨(some 11), none, true, .call 51 [(.t 10)]⟩,
 ⟨(some 12), none, false, .un .not (.t 11)⟩,
 ⟨(some 13), none, false, .mov (.t 12)⟩,
 ⟨(some 14), (some (13, false)), false, .ld none (.t 6)⟩,
 ⟨(some 15), (some (13, false)), false, .bin .lss (.t 14) (.k (.d (.int .i64 0)))⟩,
 ⟨(some 16), none, false, .pick (.t 13) (.k (.d (.bool true))) (.t 15)⟩])
 (.cond (.t 16)
 (.seq
 (.reg false [4, 5] [⟨(some 4), none, false, .mov (.k .nil)⟩,
 ⟨(some 5), none, false, .mov (.k (.d (.bool false)))⟩])
 .ret)
 .skip))
 (.seq
 (.reg false [4, 5] [⟨(some 17), none, false, .ld none (.t 2)⟩,
 ⟨(some 18), none, false, .ld none (.t 6)⟩,
 ⟨(some 19), none, false, .ia 6 (.t 17) (.t 18)⟩,
 ⟨(some 20), none, false, .fa 3 3 (.t 19)⟩,
 ⟨(some 21), none, false, .ld none (.t 20)⟩,
 ⟨(some 22), none, true, .call 68 [(.t 21)]⟩,
 ⟨(some 23), none, false, .clos 69 [(.t 2), (.t 6)]⟩,
 ⟨(some 24), none, true, .call 67 [(.t 22), (.t 23)]⟩,
 ⟨(some 4), none, false, .mov (.t 24)⟩,
 ⟨(some 5), none, false, .mov (.k (.d (.bool true)))⟩])
 .ret))))
theorem c10 : (Go.Proofs.Try.f10).body.bind (comp prog.P (2, (Go.Proofs.Try.f10).ntmps) lv10) = some m10 := by kernel_rfl
theorem r10 : resOK prog.P (Go.Proofs.Try.f10).results.toList = true := by kernel_rfl

/-- laws.rBig -/
def lv16 : List (Nat × List Nat) := [(0, [0]), (1, [2])]
def m16 : MC :=
  (.seq
 (.reg false [0] [⟨(some 2), none, false, .mov (.k (.d (.bool false)))⟩])
 (.seq
 (.reg false [2] [⟨(some 3), none, false, .mov (.t 0)⟩,
 ⟨(some 4), none, false, .len false (.t 3)⟩,
 ⟨(some 5), none, false, .bin .gtr (.t 4) (.k (.d (.int .i64 65536)))⟩,
 ⟨(some 2), none, false, .mov (.t 5)⟩])
 .ret))
theorem c16 : (Go.Proofs.Try.f16).body.bind (comp prog.P (1, (Go.Proofs.Try.f16).ntmps) lv16) = some m16 := by kernel_rfl
theorem r16 : resOK prog.P (Go.Proofs.Try.f16).results.toList = true := by kernel_rfl

/-- laws.rInts -/
def lv27 : List (Nat × List Nat) := [(0, [0, 1]), (1, [0, 1, 10]), (2, [4]), (3, [0, 1, 5]), (4, [0, 1, 5, 14]), (5, [0, 1, 5]), (6, [0, 1, 5, 25]), (7, [4]), (8, [4])]
def m27 : MC :=
  (.seq
 (.reg false [0, 1] [⟨(some 4), none, false, .mov (.k (.d (.bool false)))⟩])
 (.seq
 (.seq
 (.reg false [0, 1, 10] [⟨(some 6), none, false, .mov (.t 0)⟩,
 ⟨(some 7), none, false, .len false (.t 6)⟩,
 ⟨(some 8), none, false, .mov (.t 1)⟩,
 ⟨(some 9), none, false, .len false (.t 8)⟩,
 ⟨(some 10), none, false, .bin .neq (.t 7) (.t 9)⟩])
 (.cond (.t 10)
 (.seq
 (.reg false [4] [⟨(some 4), none, false, .mov (.k (.d (.bool false)))⟩])
 .ret)
 .skip))
 (.seq
 (.seq
 (.reg false [0, 1, 5] [⟨(some 5), none, false, .mov (.k (.d (.int .i64 0)))⟩])
 (.block 0
 (.loop
 (.seq
 (.seq
 (.reg false [0, 1, 5, 14] [⟨(some 11), none, false, .mov (.t 5)⟩,
 ⟨(some 12), none, false, .mov (.t 0)⟩,
 ⟨(some 13), none, false, .len false (.t 12)⟩,
 ⟨(some 14), none, false, .bin .lss (.t 11) (.t 13)⟩])
 (.cond (.t 14)
 .skip
 (.exit 0)))
 (.seq
 (.block 1
 (.seq
 (.reg true [0, 1, 5, 25] [⟨(some 17), none, false, .mov (.t 0)⟩,
 ⟨(some 18), none, false, .mov (.t 5)⟩,
 ⟨(some 19), none, false, .ia 1 (.t 17) (.t 18)⟩,
 ⟨(some 20), none, false, .ld none (.t 19)⟩,
 ⟨(some 21), none, false, .mov (.t 1)⟩,
 ⟨(some 22), none, false, .mov (.t 5)⟩,
 ⟨(some 23), none, false, .ia 1 (.t 21) (.t 22)⟩,
 ⟨(some 24), none, false, .ld none (.t 23)⟩,
 ⟨(some 25), none, false, .bin .neq (.t 20) (.t 24)⟩])
 (.cond (.t 25)
 (.seq
 (.reg false [4] [⟨(some 4), none, false, .mov (.k (.d (.bool false)))⟩])
 .ret)
 .skip)))
 (.reg false [0, 1, 5] [⟨(some 15), none, false, .mov (.t 5)⟩,
 ⟨(some 16), none, false, .bin .add (.t 15) (.k (.d (.int .i64 1)))⟩,
 ⟨(some 5), none, false, .mov (.t 16)⟩]))))))
 (.seq
 (.reg false [4] [⟨(some 4), none, false, .mov (.k (.d (.bool true)))⟩])
 .ret))))
theorem c27 : (Go.Proofs.Try.f27).body.bind (comp prog.P (2, (Go.Proofs.Try.f27).ntmps) lv27) = some m27 := by kernel_rfl
theorem r27 : resOK prog.P (Go.Proofs.Try.f27).results.toList = true := by kernel_rfl

/-- laws.rHas -/
def lv28 : List (Nat × List Nat) := [(0, [0, 1]), (1, [0, 1, 5]), (2, [0, 1, 5, 9]), (3, [0, 1, 5]), (4, [0, 1, 5, 17]), (5, [4]), (6, [4])]
def m28 : MC :=
  (.seq
 (.reg false [0, 1] [⟨(some 4), none, false, .mov (.k (.d (.bool false)))⟩])
 (.seq
 (.seq
 (.reg false [0, 1, 5] [⟨(some 5), none, false, .mov (.k (.d (.int .i64 0)))⟩])
 (.block 0
 (.loop
 (.seq
 (.seq
 (.reg false [0, 1, 5, 9] [⟨(some 6), none, false, .mov (.t 5)⟩,
 ⟨(some 7), none, false, .mov (.t 0)⟩,
 ⟨(some 8), none, false, .len false (.t 7)⟩,
 ⟨(some 9), none, false, .bin .lss (.t 6) (.t 8)⟩])
 (.cond (.t 9)
 .skip
 (.exit 0)))
 (.seq
 (.block 1
 (.seq
 (.reg false [0, 1, 5, 17] [⟨(some 12), none, false, .mov (.t 0)⟩,
 ⟨(some 13), none, false, .mov (.t 5)⟩,
 ⟨(some 14), none, false, .ia 1 (.t 12) (.t 13)⟩,
 ⟨(some 15), none, false, .ld none (.t 14)⟩,
 ⟨(some 16), none, false, .mov (.t 1)⟩,
 ⟨(some 17), none, false, .bin .eql (.t 15) (.t 16)⟩])
 (.cond (.t 17)
 (.seq
 (.reg false [4] [⟨(some 4), none, false, .mov (.k (.d (.bool true)))⟩])
 .ret)
 .skip)))
 (.reg false [0, 1, 5] [⟨(some 10), none, false, .mov (.t 5)⟩,
 ⟨(some 11), none, false, .bin .add (.t 10) (.k (.d (.int .i64 1)))⟩,
 ⟨(some 5), none, false, .mov (.t 11)⟩]))))))
 (.seq
 (.reg false [4] [⟨(some 4), none, false, .mov (.k (.d (.bool false)))⟩])
 .ret)))
theorem c28 : (Go.Proofs.Try.f28).body.bind (comp prog.P (2, (Go.Proofs.Try.f28).ntmps) lv28) = some m28 := by kernel_rfl
theorem r28 : resOK prog.P (Go.Proofs.Try.f28).results.toList = true := by kernel_rfl

/-- spec.DrawWaitFor -/
def lv32 : List (Nat × List Nat) := [(0, [0]), (1, [4]), (2, [4, 5]), (3, [2, 3])]
def m32 : MC :=
  (.seq
 (.reg false [0] [⟨(some 2), none, false, .mov (.k .nil)⟩,
 ⟨(some 3), none, false, .mov (.k (.d (.int .i64 0)))⟩])
 (.seq
 (.reg false [4] [⟨(some 6), none, false, .mov (.t 0)⟩,
 ⟨(some 7), none, true, .bld (.cons (.sl true 1 .nil) (.cons (.int .i64 0) (.cons (.int .u64 0) .nil))) [(0, (.t 6))]⟩,
 ⟨(some 8), none, true, .box (.t 7)⟩,
 ⟨(some 4), none, false, .mov (.t 8)⟩])
 (.seq
 (.reg false [4, 5] [⟨(some 9), none, false, .mov (.t 4)⟩,
 ⟨(some 10), none, true, .call 84 [(.t 9)]⟩,
 ⟨(some 5), none, false, .mov (.t 10)⟩])
 (.seq
 (.reg false [2, 3] [⟨(some 11), none, false, .mov (.t 5)⟩,
 ⟨(some 12), none, false, .mov (.t 4)⟩,
 ⟨(some 13), none, true, .bs 1 7 (.int .i64 0) [(0, (.k (.d (.int .i64 1)))), (1, (.k (.d (.int .i64 2)))), (2, (.k (.d (.int .i64 3)))), (3, (.k (.d (.int .i64 4)))), (4, (.k (.d (.int .i64 50)))), (5, (.k (.d (.int .i64 0)))), (6, (.k (.d (.int .i64 51))))]⟩,
 ⟨(some 14), none, false, .mov (.t 4)⟩,
 ⟨(some 15), none, true, .call 86 [(.t 14), (.k (.d (.int .i64 24)))]⟩,
 ⟨(some 16), none, false, .bin .quo (.t 15) (.k (.d (.int .i64 11)))⟩,
 ⟨(some 17), none, false, .bin .add (.k (.d (.int .i64 5))) (.t 16)⟩,
 ⟨(some 18), none, true, .cut 1 (.t 13) (.t 17)⟩,
 ⟨(some 19), none, true, .call 85 [(.t 12), (.t 18)]⟩,
 ⟨(some 2), none, false, .mov (.t 11)⟩,
 ⟨(some 3), none, false, .mov (.t 19)⟩])
 .ret))))
theorem c32 : (Go.Proofs.Try.f32).body.bind (comp prog.P (1, (Go.Proofs.Try.f32).ntmps) lv32) = some m32 := by kernel_rfl
theorem r32 : resOK prog.P (Go.Proofs.Try.f32).results.toList = true := by kernel_rfl

/-- impl.WaitFor -/
def lv33 : List (Nat × List Nat) := [(0, [0, 1]), (1, [0, 1, 19]), (2, [4, 5]), (3, [0, 1, 6]), (4, [1, 6, 20, 21, 22]), (5, [1, 6, 20, 21, 22, 23]), (6, [1, 6, 8, 20, 21, 22]), (7, [1, 6, 8, 20, 21, 22, 28]), (8, [1, 6, 20, 21, 22]), (9, [1, 6, 20, 21, 22]), (10, [6]), (11, [6, 9]), (12, [9, 36, 37, 38]), (13, [9, 36, 37, 38, 39]), (14, [9, 11, 36, 37, 38]), (15, [9, 36, 37, 38]), (16, [9, 36, 37, 38]), (17, [4, 5])]
def m33 : MC :=
  (.seq
 (.reg false [0, 1] [⟨(some 4), none, false, .mov (.k .nil)⟩,
 ⟨(some 5), none, false, .mov (.k (.d (.bool false)))⟩])
 (.seq
 (.seq
 (.reg false [0, 1, 19] [⟨(some 12), none, false, .mov (.t 0)⟩,
 ⟨(some 13), none, true, .call 51 [(.t 12)]⟩,
 ⟨(some 14), none, false, .un .not (.t 13)⟩,
 ⟨(some 15), none, false, .mov (.t 14)⟩,
 ⟨(some 16), (some (15, false)), false, .mov (.t 1)⟩,
 ⟨(some 17), (some (15, false)), true, .call 87 [(.t 16)]⟩,
 ⟨(some 18), (some (15, false)), false, .un .not (.t 17)⟩,
 ⟨(some 19), none, false, .pick (.t 15) (.k (.d (.bool true))) (.t 18)⟩])
 (.cond (.t 19)
 (.seq
 (.reg false [4, 5] [⟨(some 4), none, false, .mov (.k .nil)⟩,
 ⟨(some 5), none, false, .mov (.k (.d (.bool false)))⟩])
 .ret)
 .skip))
 (.seq
 (.reg false [0, 1, 6] [⟨(some 6), none, false, .mov (.k .nil)⟩])
 (.seq
 (.seq
 (.reg false [1, 6, 20, 21, 22] [⟨(some 20), none, false, .mov (.t 0)⟩,
 ⟨(some 21), none, false, .len false (.t 20)⟩,
 ⟨(some 22), none, false, .mov (.k (.d (.int .i64 0)))⟩])
 (.block 0
 (.loop
 (.seq
 (.reg false [1, 6, 20, 21, 22, 23] [⟨(some 23), none, false, .bin .lss (.t 22) (.t 21)⟩])
 (.seq
 (.cond (.t 23)
 .skip
 (.exit 0))
 (.seq
 (.block 1
 (.seq
 (.reg false [1, 6, 8, 20, 21, 22] [⟨(some 24), none, false, .ia 6 (.t 20) (.t 22)⟩,
 ⟨(some 25), none, false, .ld (some 6) (.t 24)⟩,
 ⟨(some 8), none, true, .alloc (.st (.cons (.int .i64 0) (.cons (.int .i64 0) (.cons (.int .i64 0) (.cons (.sl true 1 .nil) (.cons (.sl true 1 .nil) (.cons (.int .i64 0) .nil)))))))⟩,
 ⟨none, none, true, .st 6 (.t 8) (.t 25)⟩])
 (.seq
 (.reg false [1, 6, 8, 20, 21, 22, 28] [⟨(some 26), none, false, .ld (some 6) (.t 8)⟩,
 ⟨(some 27), none, false, .mov (.t 1)⟩,
 ⟨(some 28), none, true, .call 88 [(.t 26), (.t 27)]⟩])
 (.cond (.t 28)
 (.reg false [1, 6, 20, 21, 22] [⟨(some 29), none, false, .mov (.t 6)⟩,
 ⟨(some 30), none, false, .ld (some 6) (.t 8)⟩,
 ⟨(some 31), none, true, .bs 6 1 (.st (.cons (.int .i64 0) (.cons (.int .i64 0) (.cons (.int .i64 0) (.cons (.sl true 1 .nil) (.cons (.sl true 1 .nil) (.cons (.int .i64 0) .nil))))))) [(0, (.t 30))]⟩,
 ⟨(some 32), none, true, .app 6 80 (.t 29) (.t 31)⟩,
 ⟨(some 6), none, false, .mov (.t 32)⟩])
 .skip))))
 (.reg false [1, 6, 20, 21, 22] [⟨(some 33), none, false, .bin .add (.t 22) (.k (.d (.int .i64 1)))⟩,
 ⟨(some 22), none, false, .mov (.t 33)⟩])))))))
 (.seq
 (.reg false [6] [⟨(some 34), none, false, .mov (.t 6)⟩,
 ⟨(some 35), none, true, .call 89 [(.t 34), (.k (.d (.clo 90 .nil)))]⟩])
 (.seq
 (.reg false [6, 9] [⟨(some 9), none, false, .mov (.k .nil)⟩])
 (.seq
 (.seq
 (.reg false [9, 36, 37, 38] [⟨(some 36), none, false, .mov (.t 6)⟩,
 ⟨(some 37), none, false, .len false (.t 36)⟩,
 ⟨(some 38), none, false, .mov (.k (.d (.int .i64 0)))⟩])
 (.block 2
 (.loop
 (.seq
 (.reg false [9, 36, 37, 38, 39] [⟨(some 39), none, false, .bin .lss (.t 38) (.t 37)⟩])
 (.seq
 (.cond (.t 39)
 .skip
 (.exit 2))
 (.seq
 (.block 3
 (.seq
 (.reg false [9, 11, 36, 37, 38] [⟨(some 40), none, false, .ia 6 (.t 36) (.t 38)⟩,
 ⟨(some 41), none, false, .ld (some 6) (.t 40)⟩,
 ⟨(some 11), none, true, .alloc (.st (.cons (.int .i64 0) (.cons (.int .i64 0) (.cons (.int .i64 0) (.cons (.sl true 1 .nil) (.cons (.sl true 1 .nil) (.cons (.int .i64 0) .nil)))))))⟩,
 ⟨none, none, true, .st 6 (.t 11) (.t 41)⟩])
 (.reg false [9, 36, 37, 38] [⟨(some 42), none, false, .mov (.t 9)⟩,
 ⟨(some 43), none, false, .fa 0 0 (.t 11)⟩,
 ⟨(some 44), none, false, .ld none (.t 43)⟩,
 ⟨(some 45), none, true, .bs 1 1 (.int .i64 0) [(0, (.t 44))]⟩,
 ⟨(some 46), none, true, .app 1 8 (.t 42) (.t 45)⟩,
 ⟨(some 9), none, false, .mov (.t 46)⟩])))
 (.reg false [9, 36, 37, 38] [⟨(some 47), none, false, .bin .add (.t 38) (.k (.d (.int .i64 1)))⟩,
 ⟨(some 38), none, false, .mov (.t 47)⟩])))))))
 (.seq
 (.reg false [4, 5] [⟨(some 48), none, false, .mov (.t 9)⟩,
 ⟨(some 4), none, false, .mov (.t 48)⟩,
 ⟨(some 5), none, false, .mov (.k (.d (.bool true)))⟩])
 .ret))))))))
theorem c33 : (Go.Proofs.Try.f33).body.bind (comp prog.P (2, (Go.Proofs.Try.f33).ntmps) lv33) = some m33 := by kernel_rfl
theorem r33 : resOK prog.P (Go.Proofs.Try.f33).results.toList = true := by kernel_rfl

/-- spec.WaitFor -/
def lv34 : List (Nat × List Nat) := [(0, [0, 1]), (1, [0, 1, 6]), (2, [0, 1, 6, 20]), (3, [4, 5]), (4, [0, 1, 6, 7]), (5, [0, 1, 6, 7, 8]), (6, [0, 1, 6, 7, 8, 26]), (7, [0, 1, 6, 7, 8]), (8, [0, 1, 6, 7, 8, 9]), (9, [0, 1, 6, 7, 8, 9, 48]), (10, [0, 1, 6, 7, 8, 9, 10]), (11, [0, 1, 6, 7, 8, 9, 10, 63]), (12, [0, 1, 6, 7, 8, 9, 10]), (13, [0, 1, 6, 7, 8]), (14, [6, 7, 11]), (15, [6, 7, 11, 81]), (16, [6, 7, 11]), (17, [6, 7, 11]), (18, [4, 5]), (1000013, [0, 1, 1, 1, 2, 1, 3, 1, 5, 1, 8, 1, 9, 1, 10, 3, 2, 0, 3, 2, 4, 2, 6, 2, 7, 2, 11, 1, 12, 0, 2, 6, 2, 4, 2, 7, 2, 11, 1, 12, 0, 2, 6, 2, 0, 2, 4, 2, 7, 2, 11, 1, 12, 0])]
def m34 : MC :=
  (.seq
 (.reg false [0, 1] [⟨(some 4), none, false, .mov (.k .nil)⟩,
 ⟨(some 5), none, false, .mov (.k (.d (.bool false)))⟩])
 (.seq
 (.reg false [0, 1, 6] [⟨(some 12), none, true, .bs 1 0 (.int .i64 0) []⟩,
 ⟨(some 6), none, false, .mov (.t 12)⟩])
 (.seq
 (.seq
 (.reg false [0, 1, 6, 20] [⟨(some 13), none, false, .mov (.t 0)⟩,
 ⟨(some 14), none, true, .call 63 [(.t 13)]⟩,
 ⟨(some 15), none, false, .un .not (.t 14)⟩,
 ⟨(some 16), none, false, .mov (.t 15)⟩,
 ⟨(some 17), (some (16, false)), false, .mov (.t 1)⟩,
 ⟨(some 18), (some (16, false)), true, .call 92 [(.t 17)]⟩,
 ⟨(some 19), (some (16, false)), false, .un .not (.t 18)⟩,
 ⟨(some 20), none, false, .pick (.t 16) (.k (.d (.bool true))) (.t 19)⟩])
 (.cond (.t 20)
 (.seq
 (.reg false [4, 5] [⟨(some 21), none, false, .mov (.t 6)⟩,
 ⟨(some 4), none, false, .mov (.t 21)⟩,
 ⟨(some 5), none, false, .mov (.k (.d (.bool false)))⟩])
 .ret)
 .skip))
 (.seq
 (.reg false [0, 1, 6, 7] [⟨(some 22), none, true, .bs 6 0 (.st (.cons (.int .i64 0) (.cons (.int .i64 0) (.cons (.int .i64 0) (.cons (.sl true 1 .nil) (.cons (.sl true 1 .nil) (.cons (.int .i64 0) .nil))))))) []⟩,
 ⟨(some 7), none, false, .mov (.t 22)⟩])
 (.seq
 (.seq
 (.reg false [0, 1, 6, 7, 8] [⟨(some 8), none, false, .mov (.k (.d (.int .i64 0)))⟩])
 (.block 0
 (.loop
 (.seq
 (.seq
 (.reg false [0, 1, 6, 7, 8, 26] [⟨(some 23), none, false, .mov (.t 8)⟩,
 ⟨(some 24), none, false, .mov (.t 0)⟩,
 ⟨(some 25), none, false, .len false (.t 24)⟩,
 ⟨(some 26), none, false, .bin .lss (.t 23) (.t 25)⟩])
 (.cond (.t 26)
 .skip
 (.exit 0)))
 (.seq
 (.block 1
 (.seq
 (.reg false [0, 1, 6, 7, 8, 9] [⟨(some 29), none, false, .mov (.t 0)⟩,
 ⟨(some 30), none, false, .mov (.t 8)⟩,
 ⟨(some 31), none, false, .ia 6 (.t 29) (.t 30)⟩,
 ⟨(some 32), none, false, .ld (some 6) (.t 31)⟩,
 ⟨(some 9), none, true, .alloc (.st (.cons (.int .i64 0) (.cons (.int .i64 0) (.cons (.int .i64 0) (.cons (.sl true 1 .nil) (.cons (.sl true 1 .nil) (.cons (.int .i64 0) .nil)))))))⟩,
 ⟨none, none, true, .st 6 (.t 9) (.t 32)⟩])
 (.seq
 (.seq
 (.reg false [0, 1, 6, 7, 8, 9, 48] [⟨(some 33), none, false, .fa 5 5 (.t 9)⟩,
 ⟨(some 34), none, false, .ld none (.t 33)⟩,
 ⟨(some 35), none, false, .bin .neq (.t 34) (.k (.d (.int .i64 0)))⟩,
 ⟨(some 36), none, false, .mov (.t 35)⟩,
 ⟨(some 37), (some (36, false)), false, .fa 3 3 (.t 9)⟩,
 ⟨(some 38), (some (36, false)), false, .ld none (.t 37)⟩,
 ⟨(some 39), (some (36, false)), false, .mov (.t 1)⟩,
 ⟨(some 40), (some (36, false)), true, .call 64 [(.t 38), (.t 39)]⟩,
 ⟨(some 41), (some (36, false)), false, .un .not (.t 40)⟩,
 ⟨(some 42), none, false, .pick (.t 36) (.k (.d (.bool true))) (.t 41)⟩,
 ⟨(some 43), none, false, .mov (.t 42)⟩,
 ⟨(some 44), (some (43, false)), false, .fa 4 4 (.t 9)⟩,
 ⟨(some 45), (some (43, false)), false, .ld none (.t 44)⟩,
 ⟨(some 46), (some (43, false)), false, .mov (.t 1)⟩,
 ⟨(some 47), (some (43, false)), true, .call 64 [(.t 45), (.t 46)]⟩,
 ⟨(some 48), none, false, .pick (.t 43) (.k (.d (.bool true))) (.t 47)⟩])
 (.cond (.t 48)
 (.exit 1)
 .skip))
 (.seq
 (.reg false [0, 1, 6, 7, 8, 9, 10] [⟨(some 49), none, false, .mov (.t 7)⟩,
 ⟨(some 50), none, false, .len false (.t 49)⟩,
 ⟨(some 10), none, false, .mov (.t 50)⟩])
 (.seq
 (.block 2
 (.loop
 (.seq
 (.seq
 (.reg true [0, 1, 6, 7, 8, 9, 10, 63] [⟨(some 51), none, false, .mov (.t 10)⟩,
 ⟨(some 52), none, false, .bin .gtr (.t 51) (.k (.d (.int .i64 0)))⟩,
 ⟨(some 53), none, false, .mov (.t 52)⟩,
 ⟨(some 54), (some (53, true)), false, .mov (.t 7)⟩,
 ⟨(some 55), (some (53, true)), false, .mov (.t 10)⟩,
 ⟨(some 56), (some (53, true)), false, .bin .sub (.t 55) (.k (.d (.int .i64 1)))⟩,
 ⟨(some 57), (some (53, true)), false, .ia 6 (.t 54) (.t 56)⟩,
 ⟨(some 58), (some (53, true)), false, .fa 2 2 (.t 57)⟩,
 ⟨(some 59), (some (53, true)), false, .ld none (.t 58)⟩,
 ⟨(some 60), (some (53, true)), false, .fa 2 2 (.t 9)⟩,
 ⟨(some 61), (some (53, true)), false, .ld none (.t 60)⟩,
 ⟨(some 62), (some (53, true)), false, .bin .gtr (.t 59) (.t 61)⟩,
 ⟨(some 63), none, false, .pick (.t 53) (.t 62) (.k (.d (.bool false)))⟩])
 (.cond (.t 63)
 .skip
 (.exit 2)))
 (.block 3
 (.reg false [0, 1, 6, 7, 8, 9, 10] [⟨(some 64), none, false, .mov (.t 10)⟩,
 ⟨(some 65), none, false, .bin .sub (.t 64) (.k (.d (.int .i64 1)))⟩,
 ⟨(some 10), none, false, .mov (.t 65)⟩])))))
 (.any [] [0, 1, 6, 7, 8] (.q 1 ⟨(some 67), none, false, .mov (.t 7)⟩ (.q 2 ⟨(some 68), none, false, .mov (.t 10)⟩ (.q 3 ⟨(some 69), none, false, .slx 6 (.t 67) none (some (.t 68))⟩ (.q 5 ⟨(some 71), none, false, .ld (some 6) (.t 9)⟩ (.q 8 ⟨(some 74), none, false, .mov (.t 7)⟩ (.q 9 ⟨(some 75), none, false, .mov (.t 10)⟩ (.q 10 ⟨(some 76), none, false, .slx 6 (.t 74) (some (.t 75)) none⟩ (.br (.e 0 ⟨(some 66), none, true, .bs 6 0 (.st (.cons (.int .i64 0) (.cons (.int .i64 0) (.cons (.int .i64 0) (.cons (.sl true 1 .nil) (.cons (.sl true 1 .nil) (.cons (.int .i64 0) .nil))))))) []⟩ (.br (.e 4 ⟨(some 70), none, true, .app 6 80 (.t 66) (.t 69)⟩ (.e 6 ⟨(some 72), none, true, .bs 6 1 (.st (.cons (.int .i64 0) (.cons (.int .i64 0) (.cons (.int .i64 0) (.cons (.sl true 1 .nil) (.cons (.sl true 1 .nil) (.cons (.int .i64 0) .nil))))))) [(0, (.t 71))]⟩ (.e 7 ⟨(some 73), none, true, .app 6 80 (.t 70) (.t 72)⟩ (.e 11 ⟨(some 77), none, true, .app 6 80 (.t 73) (.t 76)⟩ (.q 12 ⟨(some 7), none, false, .mov (.t 77)⟩ .done)))))
 (.e 6 ⟨(some 72), none, true, .bs 6 1 (.st (.cons (.int .i64 0) (.cons (.int .i64 0) (.cons (.int .i64 0) (.cons (.sl true 1 .nil) (.cons (.sl true 1 .nil) (.cons (.int .i64 0) .nil))))))) [(0, (.t 71))]⟩ (.e 4 ⟨(some 70), none, true, .app 6 80 (.t 66) (.t 69)⟩ (.e 7 ⟨(some 73), none, true, .app 6 80 (.t 70) (.t 72)⟩ (.e 11 ⟨(some 77), none, true, .app 6 80 (.t 73) (.t 76)⟩ (.q 12 ⟨(some 7), none, false, .mov (.t 77)⟩ .done)))))))
 (.e 6 ⟨(some 72), none, true, .bs 6 1 (.st (.cons (.int .i64 0) (.cons (.int .i64 0) (.cons (.int .i64 0) (.cons (.sl true 1 .nil) (.cons (.sl true 1 .nil) (.cons (.int .i64 0) .nil))))))) [(0, (.t 71))]⟩ (.e 0 ⟨(some 66), none, true, .bs 6 0 (.st (.cons (.int .i64 0) (.cons (.int .i64 0) (.cons (.int .i64 0) (.cons (.sl true 1 .nil) (.cons (.sl true 1 .nil) (.cons (.int .i64 0) .nil))))))) []⟩ (.e 4 ⟨(some 70), none, true, .app 6 80 (.t 66) (.t 69)⟩ (.e 7 ⟨(some 73), none, true, .app 6 80 (.t 70) (.t 72)⟩ (.e 11 ⟨(some 77), none, true, .app 6 80 (.t 73) (.t 76)⟩ (.q 12 ⟨(some 7), none, false, .mov (.t 77)⟩ .done))))))))))))))))))))
 (.reg false [0, 1, 6, 7, 8] [⟨(some 27), none, false, .mov (.t 8)⟩,
 ⟨(some 28), none, false, .bin .add (.t 27) (.k (.d (.int .i64 1)))⟩,
 ⟨(some 8), none, false, .mov (.t 28)⟩]))))))
 (.seq
 (.seq
 (.reg false [6, 7, 11] [⟨(some 11), none, false, .mov (.k (.d (.int .i64 0)))⟩])
 (.block 4
 (.loop
 (.seq
 (.seq
 (.reg false [6, 7, 11, 81] [⟨(some 78), none, false, .mov (.t 11)⟩,
 ⟨(some 79), none, false, .mov (.t 7)⟩,
 ⟨(some 80), none, false, .len false (.t 79)⟩,
 ⟨(some 81), none, false, .bin .lss (.t 78) (.t 80)⟩])
 (.cond (.t 81)
 .skip
 (.exit 4)))
 (.seq
 (.block 5
 (.reg false [6, 7, 11] [⟨(some 84), none, false, .mov (.t 6)⟩,
 ⟨(some 85), none, false, .mov (.t 7)⟩,
 ⟨(some 86), none, false, .mov (.t 11)⟩,
 ⟨(some 87), none, false, .ia 6 (.t 85) (.t 86)⟩,
 ⟨(some 88), none, false, .fa 0 0 (.t 87)⟩,
 ⟨(some 89), none, false, .ld none (.t 88)⟩,
 ⟨(some 90), none, true, .bs 1 1 (.int .i64 0) [(0, (.t 89))]⟩,
 ⟨(some 91), none, true, .app 1 8 (.t 84) (.t 90)⟩,
 ⟨(some 6), none, false, .mov (.t 91)⟩]))
 (.reg false [6, 7, 11] [⟨(some 82), none, false, .mov (.t 11)⟩,
 ⟨(some 83), none, false, .bin .add (.t 82) (.k (.d (.int .i64 1)))⟩,
 ⟨(some 11), none, false, .mov (.t 83)⟩]))))))
 (.seq
 (.reg false [4, 5] [⟨(some 92), none, false, .mov (.t 6)⟩,
 ⟨(some 4), none, false, .mov (.t 92)⟩,
 ⟨(some 5), none, false, .mov (.k (.d (.bool true)))⟩])
 .ret)))))))
theorem c34 : (Go.Proofs.Try.f34).body.bind (comp prog.P (2, (Go.Proofs.Try.f34).ntmps) lv34) = some m34 := by kernel_rfl
theorem r34 : resOK prog.P (Go.Proofs.Try.f34).results.toList = true := by kernel_rfl

/-- spec.DrawLapseAppeals -/
def lv35 : List (Nat × List Nat) := [(0, [0]), (1, [4]), (2, [4, 5]), (3, [2, 3])]
def m35 : MC :=
  (.seq
 (.reg false [0] [⟨(some 2), none, false, .mov (.k .nil)⟩,
 ⟨(some 3), none, false, .mov (.k (.d (.int .i64 0)))⟩])
 (.seq
 (.reg false [4] [⟨(some 6), none, false, .mov (.t 0)⟩,
 ⟨(some 7), none, true, .bld (.cons (.sl true 1 .nil) (.cons (.int .i64 0) (.cons (.int .u64 0) .nil))) [(0, (.t 6))]⟩,
 ⟨(some 8), none, true, .box (.t 7)⟩,
 ⟨(some 4), none, false, .mov (.t 8)⟩])
 (.seq
 (.reg false [4, 5] [⟨(some 9), none, false, .mov (.t 4)⟩,
 ⟨(some 10), none, true, .call 84 [(.t 9)]⟩,
 ⟨(some 5), none, false, .mov (.t 10)⟩])
 (.seq
 (.reg false [2, 3] [⟨(some 11), none, false, .mov (.t 5)⟩,
 ⟨(some 12), none, false, .mov (.t 4)⟩,
 ⟨(some 13), none, true, .call 93 [(.t 12)]⟩,
 ⟨(some 2), none, false, .mov (.t 11)⟩,
 ⟨(some 3), none, false, .mov (.t 13)⟩])
 .ret))))
theorem c35 : (Go.Proofs.Try.f35).body.bind (comp prog.P (1, (Go.Proofs.Try.f35).ntmps) lv35) = some m35 := by kernel_rfl
theorem r35 : resOK prog.P (Go.Proofs.Try.f35).results.toList = true := by kernel_rfl

/-- impl.LapseAppeals -/
def lv36 : List (Nat × List Nat) := [(0, [0, 1]), (1, [0, 1, 18]), (2, [4, 5, 6]), (3, [1, 7]), (4, [1, 7, 8]), (5, [1, 7, 8, 21, 22, 23]), (6, [1, 7, 8, 21, 22, 23, 24]), (7, [1, 7, 8, 9, 10, 21, 22, 23]), (8, [1, 7, 8, 9, 10, 21, 22, 23, 37]), (9, [1, 7, 8, 10, 21, 22, 23]), (10, [1, 7, 8, 21, 22, 23]), (11, [1, 7, 8, 21, 22, 23]), (12, [4, 5, 6])]
def m36 : MC :=
  (.seq
 (.reg false [0, 1] [⟨(some 4), none, false, .mov (.k .nil)⟩,
 ⟨(some 5), none, false, .mov (.k .nil)⟩,
 ⟨(some 6), none, false, .mov (.k (.d (.bool false)))⟩])
 (.seq
 (.seq
 (.reg false [0, 1, 18] [⟨(some 11), none, false, .mov (.t 0)⟩,
 ⟨(some 12), none, true, .call 51 [(.t 11)]⟩,
 ⟨(some 13), none, false, .un .not (.t 12)⟩,
 ⟨(some 14), none, false, .mov (.t 13)⟩,
 ⟨(some 15), (some (14, false)), false, .mov (.t 1)⟩,
 ⟨(some 16), (some (14, false)), true, .call 94 [(.t 15)]⟩,
 ⟨(some 17), (some (14, false)), false, .un .not (.t 16)⟩,
 ⟨(some 18), none, false, .pick (.t 14) (.k (.d (.bool true))) (.t 17)⟩])
 (.cond (.t 18)
 (.seq
 (.reg false [4, 5, 6] [⟨(some 4), none, false, .mov (.k .nil)⟩,
 ⟨(some 5), none, false, .mov (.k .nil)⟩,
 ⟨(some 6), none, false, .mov (.k (.d (.bool false)))⟩])
 .ret)
 .skip))
 (.seq
 (.reg false [1, 7] [⟨(some 19), none, false, .mov (.t 0)⟩,
 ⟨(some 20), none, true, .call 95 [(.t 19)]⟩,
 ⟨(some 7), none, false, .mov (.t 20)⟩])
 (.seq
 (.reg false [1, 7, 8] [⟨(some 8), none, false, .mov (.k .nil)⟩])
 (.seq
 (.seq
 (.reg false [1, 7, 8, 21, 22, 23] [⟨(some 21), none, false, .mov (.t 7)⟩,
 ⟨(some 22), none, false, .len false (.t 21)⟩,
 ⟨(some 23), none, false, .mov (.k (.d (.int .i64 0)))⟩])
 (.block 0
 (.loop
 (.seq
 (.reg false [1, 7, 8, 21, 22, 23, 24] [⟨(some 24), none, false, .bin .lss (.t 23) (.t 22)⟩])
 (.seq
 (.cond (.t 24)
 .skip
 (.exit 0))
 (.seq
 (.block 1
 (.seq
 (.reg false [1, 7, 8, 9, 10, 21, 22, 23] [⟨(some 25), none, false, .mov (.t 23)⟩,
 ⟨(some 26), none, false, .ia 6 (.t 21) (.t 23)⟩,
 ⟨(some 27), none, false, .ld (some 6) (.t 26)⟩,
 ⟨(some 10), none, true, .alloc (.st (.cons (.int .i64 0) (.cons (.int .i64 0) (.cons (.int .i64 0) (.cons (.sl true 1 .nil) (.cons (.sl true 1 .nil) (.cons (.int .i64 0) .nil)))))))⟩,
 ⟨(some 9), none, false, .mov (.t 25)⟩,
 ⟨none, none, true, .st 6 (.t 10) (.t 27)⟩])
 (.seq
 (.reg false [1, 7, 8, 9, 10, 21, 22, 23, 37] [⟨(some 28), none, false, .fa 5 5 (.t 10)⟩,
 ⟨(some 29), none, false, .ld none (.t 28)⟩,
 ⟨(some 30), none, false, .bin .eql (.t 29) (.k (.d (.int .i64 0)))⟩,
 ⟨(some 31), none, false, .mov (.t 30)⟩,
 ⟨(some 32), (some (31, true)), false, .mov (.t 1)⟩,
 ⟨(some 33), (some (31, true)), false, .fa 2 2 (.t 10)⟩,
 ⟨(some 34), (some (31, true)), false, .ld none (.t 33)⟩,
 ⟨(some 35), (some (31, true)), false, .bin .sub (.t 32) (.t 34)⟩,
 ⟨(some 36), (some (31, true)), false, .bin .gtr (.t 35) (.k (.d (.int .i64 60)))⟩,
 ⟨(some 37), none, false, .pick (.t 31) (.t 36) (.k (.d (.bool false)))⟩])
 (.cond (.t 37)
 (.seq
 (.reg false [1, 7, 8, 10, 21, 22, 23] [⟨(some 38), none, false, .mov (.t 7)⟩,
 ⟨(some 39), none, false, .mov (.t 9)⟩,
 ⟨(some 40), none, false, .ia 6 (.t 38) (.t 39)⟩,
 ⟨(some 41), none, false, .fa 5 5 (.t 40)⟩,
 ⟨none, none, true, .st 1 (.t 41) (.k (.d (.int .i64 4)))⟩])
 (.reg false [1, 7, 8, 21, 22, 23] [⟨(some 42), none, false, .mov (.t 8)⟩,
 ⟨(some 43), none, false, .fa 0 0 (.t 10)⟩,
 ⟨(some 44), none, false, .ld none (.t 43)⟩,
 ⟨(some 45), none, true, .bs 1 1 (.int .i64 0) [(0, (.t 44))]⟩,
 ⟨(some 46), none, true, .app 1 8 (.t 42) (.t 45)⟩,
 ⟨(some 8), none, false, .mov (.t 46)⟩]))
 .skip))))
 (.reg false [1, 7, 8, 21, 22, 23] [⟨(some 47), none, false, .bin .add (.t 23) (.k (.d (.int .i64 1)))⟩,
 ⟨(some 23), none, false, .mov (.t 47)⟩])))))))
 (.seq
 (.reg false [4, 5, 6] [⟨(some 48), none, false, .mov (.t 7)⟩,
 ⟨(some 49), none, false, .mov (.t 8)⟩,
 ⟨(some 4), none, false, .mov (.t 48)⟩,
 ⟨(some 5), none, false, .mov (.t 49)⟩,
 ⟨(some 6), none, false, .mov (.k (.d (.bool true)))⟩])
 .ret))))))
theorem c36 : (Go.Proofs.Try.f36).body.bind (comp prog.P (2, (Go.Proofs.Try.f36).ntmps) lv36) = some m36 := by kernel_rfl
theorem r36 : resOK prog.P (Go.Proofs.Try.f36).results.toList = true := by kernel_rfl

/-- spec.LapseAppeals -/
def lv37 : List (Nat × List Nat) := [(0, [0, 1]), (1, [0, 1, 7]), (2, [0, 1, 7, 19]), (3, [4, 5, 6]), (4, [1, 7, 8]), (5, [1, 7, 8, 9]), (6, [1, 7, 8, 9, 27]), (7, [1, 7, 8, 9]), (8, [1, 7, 8, 9, 10]), (9, [1, 7, 8, 9, 10, 43]), (10, [1, 7, 8, 9, 10]), (11, [1, 7, 8, 9, 10]), (12, [1, 7, 8, 9]), (13, [4, 5, 6])]
def m37 : MC :=
  (.seq
 (.reg false [0, 1] [⟨(some 4), none, false, .mov (.k .nil)⟩,
 ⟨(some 5), none, false, .mov (.k .nil)⟩,
 ⟨(some 6), none, false, .mov (.k (.d (.bool false)))⟩])
 (.seq
 (.reg false [0, 1, 7] [⟨(some 11), none, true, .bs 1 0 (.int .i64 0) []⟩,
 ⟨(some 7), none, false, .mov (.t 11)⟩])
 (.seq
 (.seq
 (.reg false [0, 1, 7, 19] [⟨(some 12), none, false, .mov (.t 0)⟩,
 ⟨(some 13), none, true, .call 63 [(.t 12)]⟩,
 ⟨(some 14), none, false, .un .not (.t 13)⟩,
 ⟨(some 15), none, false, .mov (.t 14)⟩,
 ⟨(some 16), (some (15, false)), false, .mov (.t 1)⟩,
 ⟨(some 17), (some (15, false)), true, .call 96 [(.t 16)]⟩,
 ⟨(some 18), (some (15, false)), false, .un .not (.t 17)⟩,
 ⟨(some 19), none, false, .pick (.t 15) (.k (.d (.bool true))) (.t 18)⟩])
 (.cond (.t 19)
 (.seq
 (.reg false [4, 5, 6] [⟨(some 20), none, true, .bs 6 0 (.st (.cons (.int .i64 0) (.cons (.int .i64 0) (.cons (.int .i64 0) (.cons (.sl true 1 .nil) (.cons (.sl true 1 .nil) (.cons (.int .i64 0) .nil))))))) []⟩,
 ⟨(some 21), none, false, .mov (.t 7)⟩,
 ⟨(some 4), none, false, .mov (.t 20)⟩,
 ⟨(some 5), none, false, .mov (.t 21)⟩,
 ⟨(some 6), none, false, .mov (.k (.d (.bool false)))⟩])
 .ret)
 .skip))
 (.seq
 (.reg false [1, 7, 8] [⟨(some 22), none, false, .mov (.t 0)⟩,
 ⟨(some 23), none, true, .call 97 [(.t 22)]⟩,
 ⟨(some 8), none, false, .mov (.t 23)⟩])
 (.seq
 (.seq
 (.reg false [1, 7, 8, 9] [⟨(some 9), none, false, .mov (.k (.d (.int .i64 0)))⟩])
 (.block 0
 (.loop
 (.seq
 (.seq
 (.reg false [1, 7, 8, 9, 27] [⟨(some 24), none, false, .mov (.t 9)⟩,
 ⟨(some 25), none, false, .mov (.t 8)⟩,
 ⟨(some 26), none, false, .len false (.t 25)⟩,
 ⟨(some 27), none, false, .bin .lss (.t 24) (.t 26)⟩])
 (.cond (.t 27)
 .skip
 (.exit 0)))
 (.seq
 (.block 1
 (.seq
 (.reg false [1, 7, 8, 9, 10] [⟨(some 30), none, false, .mov (.t 8)⟩,
 ⟨(some 31), none, false, .mov (.t 9)⟩,
 ⟨(some 32), none, false, .ia 6 (.t 30) (.t 31)⟩,
 ⟨(some 33), none, false, .ld (some 6) (.t 32)⟩,
 ⟨(some 10), none, true, .alloc (.st (.cons (.int .i64 0) (.cons (.int .i64 0) (.cons (.int .i64 0) (.cons (.sl true 1 .nil) (.cons (.sl true 1 .nil) (.cons (.int .i64 0) .nil)))))))⟩,
 ⟨none, none, true, .st 6 (.t 10) (.t 33)⟩])
 (.seq
 (.reg false [1, 7, 8, 9, 10, 43] [⟨(some 34), none, false, .fa 5 5 (.t 10)⟩,
 ⟨(some 35), none, false, .ld none (.t 34)⟩,
 ⟨(some 36), none, false, .bin .eql (.t 35) (.k (.d (.int .i64 0)))⟩,
 ⟨(some 37), none, false, .mov (.t 36)⟩,
 ⟨(some 38), (some (37, true)), false, .mov (.t 1)⟩,
 ⟨(some 39), (some (37, true)), false, .fa 2 2 (.t 10)⟩,
 ⟨(some 40), (some (37, true)), false, .ld none (.t 39)⟩,
 ⟨(some 41), (some (37, true)), false, .bin .sub (.t 38) (.t 40)⟩,
 ⟨(some 42), (some (37, true)), false, .bin .gtr (.t 41) (.k (.d (.int .i64 60)))⟩,
 ⟨(some 43), none, false, .pick (.t 37) (.t 42) (.k (.d (.bool false)))⟩])
 (.cond (.t 43)
 (.seq
 (.reg false [1, 7, 8, 9, 10] [⟨(some 44), none, false, .fa 5 5 (.t 10)⟩,
 ⟨none, none, true, .st 1 (.t 44) (.k (.d (.int .i64 4)))⟩])
 (.seq
 (.reg false [1, 7, 8, 9, 10] [⟨(some 45), none, false, .mov (.t 8)⟩,
 ⟨(some 46), none, false, .mov (.t 9)⟩,
 ⟨(some 47), none, false, .ld (some 6) (.t 10)⟩,
 ⟨(some 48), none, false, .ia 6 (.t 45) (.t 46)⟩,
 ⟨none, none, true, .st 6 (.t 48) (.t 47)⟩])
 (.reg false [1, 7, 8, 9] [⟨(some 49), none, false, .mov (.t 7)⟩,
 ⟨(some 50), none, false, .fa 0 0 (.t 10)⟩,
 ⟨(some 51), none, false, .ld none (.t 50)⟩,
 ⟨(some 52), none, true, .bs 1 1 (.int .i64 0) [(0, (.t 51))]⟩,
 ⟨(some 53), none, true, .app 1 8 (.t 49) (.t 52)⟩,
 ⟨(some 7), none, false, .mov (.t 53)⟩])))
 .skip))))
 (.reg false [1, 7, 8, 9] [⟨(some 28), none, false, .mov (.t 9)⟩,
 ⟨(some 29), none, false, .bin .add (.t 28) (.k (.d (.int .i64 1)))⟩,
 ⟨(some 9), none, false, .mov (.t 29)⟩]))))))
 (.seq
 (.reg false [4, 5, 6] [⟨(some 54), none, false, .mov (.t 8)⟩,
 ⟨(some 55), none, false, .mov (.t 7)⟩,
 ⟨(some 4), none, false, .mov (.t 54)⟩,
 ⟨(some 5), none, false, .mov (.t 55)⟩,
 ⟨(some 6), none, false, .mov (.k (.d (.bool true)))⟩])
 .ret))))))
theorem c37 : (Go.Proofs.Try.f37).body.bind (comp prog.P (2, (Go.Proofs.Try.f37).ntmps) lv37) = some m37 := by kernel_rfl
theorem r37 : resOK prog.P (Go.Proofs.Try.f37).results.toList = true := by kernel_rfl

/-- laws.rAppeals -/
def lv38 : List (Nat × List Nat) := [(0, [0, 1]), (1, [0, 1, 10]), (2, [4]), (3, [0, 1, 5]), (4, [0, 1, 5, 14]), (5, [0, 1, 5]), (6, [0, 1, 5, 94]), (7, [4]), (8, [4])]
def m38 : MC :=
  (.seq
 (.reg false [0, 1] [⟨(some 4), none, false, .mov (.k (.d (.bool false)))⟩])
 (.seq
 (.seq
 (.reg false [0, 1, 10] [⟨(some 6), none, false, .mov (.t 0)⟩,
 ⟨(some 7), none, false, .len false (.t 6)⟩,
 ⟨(some 8), none, false, .mov (.t 1)⟩,
 ⟨(some 9), none, false, .len false (.t 8)⟩,
 ⟨(some 10), none, false, .bin .neq (.t 7) (.t 9)⟩])
 (.cond (.t 10)
 (.seq
 (.reg false [4] [⟨(some 4), none, false, .mov (.k (.d (.bool false)))⟩])
 .ret)
 .skip))
 (.seq
 (.seq
 (.reg false [0, 1, 5] [⟨(some 5), none, false, .mov (.k (.d (.int .i64 0)))⟩])
 (.block 0
 (.loop
 (.seq
 (.seq
 (.reg false [0, 1, 5, 14] [⟨(some 11), none, false, .mov (.t 5)⟩,
 ⟨(some 12), none, false, .mov (.t 0)⟩,
 ⟨(some 13), none, false, .len false (.t 12)⟩,
 ⟨(some 14), none, false, .bin .lss (.t 11) (.t 13)⟩])
 (.cond (.t 14)
 .skip
 (.exit 0)))
 (.seq
 (.block 1
 (.seq
 (.reg true [0, 1, 5, 94] [⟨(some 17), none, false, .mov (.t 0)⟩,
 ⟨(some 18), none, false, .mov (.t 5)⟩,
 ⟨(some 19), none, false, .ia 6 (.t 17) (.t 18)⟩,
 ⟨(some 20), none, false, .fa 0 0 (.t 19)⟩,
 ⟨(some 21), none, false, .ld none (.t 20)⟩,
 ⟨(some 22), none, false, .mov (.t 1)⟩,
 ⟨(some 23), none, false, .mov (.t 5)⟩,
 ⟨(some 24), none, false, .ia 6 (.t 22) (.t 23)⟩,
 ⟨(some 25), none, false, .fa 0 0 (.t 24)⟩,
 ⟨(some 26), none, false, .ld none (.t 25)⟩,
 ⟨(some 27), none, false, .bin .neq (.t 21) (.t 26)⟩,
 ⟨(some 28), none, false, .mov (.t 27)⟩,
 ⟨(some 29), (some (28, false)), false, .mov (.t 0)⟩,
 ⟨(some 30), (some (28, false)), false, .mov (.t 5)⟩,
 ⟨(some 31), (some (28, false)), false, .ia 6 (.t 29) (.t 30)⟩,
 ⟨(some 32), (some (28, false)), false, .fa 1 1 (.t 31)⟩,
 ⟨(some 33), (some (28, false)), false, .ld none (.t 32)⟩,
 ⟨(some 34), (some (28, false)), false, .mov (.t 1)⟩,
 ⟨(some 35), (some (28, false)), false, .mov (.t 5)⟩,
 ⟨(some 36), (some (28, false)), false, .ia 6 (.t 34) (.t 35)⟩,
 ⟨(some 37), (some (28, false)), false, .fa 1 1 (.t 36)⟩,
 ⟨(some 38), (some (28, false)), false, .ld none (.t 37)⟩,
 ⟨(some 39), (some (28, false)), false, .bin .neq (.t 33) (.t 38)⟩,
 ⟨(some 40), none, false, .pick (.t 28) (.k (.d (.bool true))) (.t 39)⟩,
 ⟨(some 41), none, false, .mov (.t 40)⟩,
 ⟨(some 42), (some (41, false)), false, .mov (.t 0)⟩,
 ⟨(some 43), (some (41, false)), false, .mov (.t 5)⟩,
 ⟨(some 44), (some (41, false)), false, .ia 6 (.t 42) (.t 43)⟩,
 ⟨(some 45), (some (41, false)), false, .fa 2 2 (.t 44)⟩,
 ⟨(some 46), (some (41, false)), false, .ld none (.t 45)⟩,
 ⟨(some 47), (some (41, false)), false, .mov (.t 1)⟩,
 ⟨(some 48), (some (41, false)), false, .mov (.t 5)⟩,
 ⟨(some 49), (some (41, false)), false, .ia 6 (.t 47) (.t 48)⟩,
 ⟨(some 50), (some (41, false)), false, .fa 2 2 (.t 49)⟩,
 ⟨(some 51), (some (41, false)), false, .ld none (.t 50)⟩,
 ⟨(some 52), (some (41, false)), false, .bin .neq (.t 46) (.t 51)⟩,
 ⟨(some 53), none, false, .pick (.t 41) (.k (.d (.bool true))) (.t 52)⟩,
 ⟨(some 54), none, false, .mov (.t 53)⟩,
 ⟨(some 55), (some (54, false)), false, .mov (.t 0)⟩,
 ⟨(some 56), (some (54, false)), false, .mov (.t 5)⟩,
 ⟨(some 57), (some (54, false)), false, .ia 6 (.t 55) (.t 56)⟩,
 ⟨(some 58), (some (54, false)), false, .fa 5 5 (.t 57)⟩,
 ⟨(some 59), (some (54, false)), false, .ld none (.t 58)⟩,
 ⟨(some 60), (some (54, false)), false, .mov (.t 1)⟩,
 ⟨(some 61), (some (54, false)), false, .mov (.t 5)⟩,
 ⟨(some 62), (some (54, false)), false, .ia 6 (.t 60) (.t 61)⟩,
 ⟨(some 63), (some (54, false)), false, .fa 5 5 (.t 62)⟩,
 ⟨(some 64), (some (54, false)), false, .ld none (.t 63)⟩,
 ⟨(some 65), (some (54, false)), false, .bin .neq (.t 59) (.t 64)⟩,
 ⟨(some 66), none, false, .pick (.t 54) (.k (.d (.bool true))) (.t 65)⟩,
 ⟨(some 67), none, false, .mov (.t 66)⟩,
 ⟨(some 68), (some (67, false)), false, .mov (.t 0)⟩,
 ⟨(some 69), (some (67, false)), false, .mov (.t 5)⟩,
 ⟨(some 70), (some (67, false)), false, .ia 6 (.t 68) (.t 69)⟩,
 ⟨(some 71), (some (67, false)), false, .fa 3 3 (.t 70)⟩,
 ⟨(some 72), (some (67, false)), false, .ld none (.t 71)⟩,
 ⟨(some 73), (some (67, false)), false, .mov (.t 1)⟩,
 ⟨(some 74), (some (67, false)), false, .mov (.t 5)⟩,
 ⟨(some 75), (some (67, false)), false, .ia 6 (.t 73) (.t 74)⟩,
 ⟨(some 76), (some (67, false)), false, .fa 3 3 (.t 75)⟩,
 ⟨(some 77), (some (67, false)), false, .ld none (.t 76)⟩,
 ⟨(some 78), (some (67, false)), false, .callP 27 [(.t 72), (.t 77)]⟩,
 ⟨(some 79), (some (67, false)), false, .un .not (.t 78)⟩,
 ⟨(some 80), none, false, .pick (.t 67) (.k (.d (.bool true))) (.t 79)⟩,
 ⟨(some 81), none, false, .mov (.t 80)⟩,
 ⟨(some 82), (some (81, false)), false, .mov (.t 0)⟩,
 ⟨(some 83), (some (81, false)), false, .mov (.t 5)⟩,
 ⟨(some 84), (some (81, false)), false, .ia 6 (.t 82) (.t 83)⟩,
 ⟨(some 85), (some (81, false)), false, .fa 4 4 (.t 84)⟩,
 ⟨(some 86), (some (81, false)), false, .ld none (.t 85)⟩,
 ⟨(some 87), (some (81, false)), false, .mov (.t 1)⟩,
 ⟨(some 88), (some (81, false)), false, .mov (.t 5)⟩,
 ⟨(some 89), (some (81, false)), false, .ia 6 (.t 87) (.t 88)⟩,
 ⟨(some 90), (some (81, false)), false, .fa 4 4 (.t 89)⟩,
 ⟨(some 91), (some (81, false)), false, .ld none (.t 90)⟩,
 ⟨(some 92), (some (81, false)), false, .callP 27 [(.t 86), (.t 91)]⟩,
 ⟨(some 93), (some (81, false)), false, .un .not (.t 92)⟩,
 ⟨(some 94), none, false, .pick (.t 81) (.k (.d (.bool true))) (.t 93)⟩])
 (.cond (.t 94)
 (.seq
 (.reg false [4] [⟨(some 4), none, false, .mov (.k (.d (.bool false)))⟩])
 .ret)
 .skip)))
 (.reg false [0, 1, 5] [⟨(some 15), none, false, .mov (.t 5)⟩,
 ⟨(some 16), none, false, .bin .add (.t 15) (.k (.d (.int .i64 1)))⟩,
 ⟨(some 5), none, false, .mov (.t 16)⟩]))))))
 (.seq
 (.reg false [4] [⟨(some 4), none, false, .mov (.k (.d (.bool true)))⟩])
 .ret))))
theorem c38 : (Go.Proofs.Try.f38).body.bind (comp prog.P (2, (Go.Proofs.Try.f38).ntmps) lv38) = some m38 := by kernel_rfl
theorem r38 : resOK prog.P (Go.Proofs.Try.f38).results.toList = true := by kernel_rfl

/-- spec.DrawDaysLeft -/
def lv39 : List (Nat × List Nat) := [(0, [0]), (1, [5]), (2, [5, 6]), (3, [2, 3, 4])]
def m39 : MC :=
  (.seq
 (.reg false [0] [⟨(some 2), none, false, .mov (.k .nil)⟩,
 ⟨(some 3), none, false, .mov (.k (.d (.int .i64 0)))⟩,
 ⟨(some 4), none, false, .mov (.k (.d (.int .i64 0)))⟩])
 (.seq
 (.reg false [5] [⟨(some 7), none, false, .mov (.t 0)⟩,
 ⟨(some 8), none, true, .bld (.cons (.sl true 1 .nil) (.cons (.int .i64 0) (.cons (.int .u64 0) .nil))) [(0, (.t 7))]⟩,
 ⟨(some 9), none, true, .box (.t 8)⟩,
 ⟨(some 5), none, false, .mov (.t 9)⟩])
 (.seq
 (.reg false [5, 6] [⟨(some 10), none, false, .mov (.t 5)⟩,
 ⟨(some 11), none, true, .call 84 [(.t 10)]⟩,
 ⟨(some 6), none, false, .mov (.t 11)⟩])
 (.seq
 (.reg false [2, 3, 4] [⟨(some 12), none, false, .mov (.t 6)⟩,
 ⟨(some 13), none, false, .mov (.t 5)⟩,
 ⟨(some 14), none, false, .mov (.t 6)⟩,
 ⟨(some 15), none, true, .call 98 [(.t 13), (.t 14), (.k (.d (.int .i64 0)))]⟩,
 ⟨(some 16), none, false, .mov (.t 5)⟩,
 ⟨(some 17), none, true, .call 93 [(.t 16)]⟩,
 ⟨(some 2), none, false, .mov (.t 12)⟩,
 ⟨(some 3), none, false, .mov (.t 15)⟩,
 ⟨(some 4), none, false, .mov (.t 17)⟩])
 .ret))))
theorem c39 : (Go.Proofs.Try.f39).body.bind (comp prog.P (1, (Go.Proofs.Try.f39).ntmps) lv39) = some m39 := by kernel_rfl
theorem r39 : resOK prog.P (Go.Proofs.Try.f39).results.toList = true := by kernel_rfl

/-- impl.DaysLeft -/
def lv40 : List (Nat × List Nat) := [(0, [0, 1, 2]), (1, [0, 2, 8]), (2, [0, 2, 8, 36]), (3, [6, 7]), (4, [6, 7])]
def m40 : MC :=
  (.seq
 (.reg false [0, 1, 2] [⟨(some 6), none, false, .mov (.k (.d (.int .i64 0)))⟩,
 ⟨(some 7), none, false, .mov (.k (.d (.bool false)))⟩])
 (.seq
 (.reg false [0, 2, 8] [⟨(some 9), none, false, .mov (.t 0)⟩,
 ⟨(some 10), none, false, .mov (.t 1)⟩,
 ⟨(some 11), none, true, .call 66 [(.t 9), (.t 10)]⟩,
 ⟨(some 8), none, false, .mov (.t 11)⟩])
 (.seq
 (.seq
 (.reg false [0, 2, 8, 36] [⟨(some 12), none, false, .mov (.t 0)⟩,
 ⟨(some 13), none, true, .call 51 [(.t 12)]⟩,
 ⟨(some 14), none, false, .un .not (.t 13)⟩,
 ⟨(some 15), none, false, .mov (.t 14)⟩,
 ⟨(some 16), (some (15, false)), false, .mov (.t 8)⟩,
 ⟨(some 17), (some (15, false)), false, .bin .lss (.t 16) (.k (.d (.int .i64 0)))⟩,
 ⟨(some 18), none, false, .pick (.t 15) (.k (.d (.bool true))) (.t 17)⟩,
 ⟨(some 19), none, false, .mov (.t 18)⟩,
 ⟨(some 20), (some (19, false)), false, .mov (.t 0)⟩,
 ⟨(some 21), (some (19, false)), false, .mov (.t 8)⟩,
 ⟨(some 22), (some (19, false)), false, .ia 6 (.t 20) (.t 21)⟩,
 ⟨(some 23), (some (19, false)), false, .fa 5 5 (.t 22)⟩,
 ⟨(some 24), (some (19, false)), false, .ld none (.t 23)⟩,
 ⟨(some 25), (some (19, false)), false, .bin .neq (.t 24) (.k (.d (.int .i64 0)))⟩,
 ⟨(some 26), none, false, .pick (.t 19) (.k (.d (.bool true))) (.t 25)⟩,
 ⟨(some 27), none, false, .mov (.t 26)⟩,
 ⟨(some 28), (some (27, false)), false, .mov (.t 0)⟩,
 ⟨(some 29), (some (27, false)), false, .mov (.t 8)⟩,
 ⟨(some 30), (some (27, false)), false, .ia 6 (.t 28) (.t 29)⟩,
 ⟨(some 31), (some (27, false)), false, .fa 2 2 (.t 30)⟩,
 ⟨(some 32), (some (27, false)), false, .ld none (.t 31)⟩,
 ⟨(some 33), (some (27, false)), false, .mov (.t 2)⟩,
 ⟨(some 34), (some (27, false)), true, .call 99 [(.t 32), (.t 33)]⟩,
 ⟨(some 35), (some (27, false)), false, .un .not (.t 34)⟩,
 ⟨(some 36), none, false, .pick (.t 27) (.k (.d (.bool true))) (.t 35)⟩])
 (.cond (.t 36)
 (.seq
 (.reg false [6, 7] [⟨(some 6), none, false, .mov (.k (.d (.int .i64 0)))⟩,
 ⟨(some 7), none, false, .mov (.k (.d (.bool false)))⟩])
 .ret)
 .skip))
 (.seq
 (.reg false [6, 7] [⟨(some 37), none, false, .mov (.t 2)⟩,
 ⟨(some 38), none, false, .mov (.t 0)⟩,
 ⟨(some 39), none, false, .mov (.t 8)⟩,
 ⟨(some 40), none, false, .ia 6 (.t 38) (.t 39)⟩,
 ⟨(some 41), none, false, .fa 2 2 (.t 40)⟩,
 ⟨(some 42), none, false, .ld none (.t 41)⟩,
 ⟨(some 43), none, false, .bin .sub (.t 37) (.t 42)⟩,
 ⟨(some 44), none, false, .bin .sub (.k (.d (.int .i64 60))) (.t 43)⟩,
 ⟨(some 45), none, false, .mx true (.t 44) (.k (.d (.int .i64 0)))⟩,
 ⟨(some 6), none, false, .mov (.t 45)⟩,
 ⟨(some 7), none, false, .mov (.k (.d (.bool true)))⟩])
 .ret))))
theorem c40 : (Go.Proofs.Try.f40).body.bind (comp prog.P (3, (Go.Proofs.Try.f40).ntmps) lv40) = some m40 := by kernel_rfl
theorem r40 : resOK prog.P (Go.Proofs.Try.f40).results.toList = true := by kernel_rfl

end Go.Pe.Try
