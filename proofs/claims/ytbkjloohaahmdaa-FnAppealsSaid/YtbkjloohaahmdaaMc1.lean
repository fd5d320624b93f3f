/-
The compact code of the functions that the law reaches, printed by gen.py, each with the proof that the machine's code is compiled to it.
-/
import Derived.Test.YtbkjloohaahmdaaPeC
import Derived.Test.YtbkjloohaahmdaaProg
import Derived.KernelRfl
set_option maxRecDepth 100000
namespace Go.Pe.Try
open Go.Pe

/-- the program; of its start-up memory nothing is asked. -/
noncomputable def prog : PG := ⟨Go.Proofs.Try.prog, fun _ => True, fun _ _ _ _ h => h⟩

theorem sz66 : sizeOfT prog.P 66 = some 6 := by kernel_rfl

/-- laws.FnAppeals -/
def lv6 : List (Nat × List Nat) := [(0, [0]), (1, [0, 46]), (2, [2]), (3, [0, 3, 4, 5]), (4, [0, 3, 4, 5, 6, 7]), (5, [0, 3, 4, 5, 6, 7, 8, 9]), (6, [0, 3, 4, 5, 6, 7, 75]), (7, [2]), (8, [0, 3, 4, 5, 6, 76]), (9, [0, 4, 5, 6, 10, 11]), (10, [0, 4, 5, 6, 10, 11, 12, 13]), (11, [0, 5, 6, 10, 11, 12, 13, 15]), (12, [0, 131]), (13, [2]), (14, [0, 16, 17, 18, 19]), (15, [0, 16, 17, 18, 19, 20, 21, 22]), (16, [0, 19, 20, 21, 22, 23, 24, 25]), (17, [0, 19, 20, 21, 22, 170]), (18, [2]), (19, [0, 19, 20, 21, 171]), (20, [0, 19, 26, 27]), (21, [0, 185]), (22, [2]), (23, [0, 28, 29, 30]), (24, [0, 28, 29, 30, 31, 32]), (25, [0, 31, 32, 33, 34]), (26, [0, 31, 32, 214]), (27, [2]), (28, [0, 31, 215]), (29, [0, 36, 37]), (30, [0, 227]), (31, [2]), (32, [0, 38, 39]), (33, [0, 38, 39, 40, 41]), (34, [0, 40, 41, 42, 43]), (35, [40, 41, 42, 43, 44]), (36, [2])]
def m6 : MC :=
  (.seq
 (.reg false [0] [⟨(some 2), none, false, .mov (.k (.d (.bool false)))⟩])
 (.seq
 (.seq
 (.reg false [0, 46] [⟨(some 45), none, false, .mov (.t 0)⟩,
 ⟨(some 46), none, true, .call 16 [(.t 45)]⟩])
 (.cond (.t 46)
 (.seq
 (.reg false [2] [⟨(some 2), none, false, .mov (.k (.d (.bool true)))⟩])
 .ret)
 .skip))
 (.seq
 (.reg false [0, 3, 4, 5] [⟨(some 48), none, false, .mov (.t 0)⟩,
 ⟨(some 49), none, true, .call 47 [(.t 48)]⟩,
 ⟨(some 47), none, false, .mov (.t 49)⟩,
 ⟨(some 50), none, false, .ext (.t 47) 0⟩,
 ⟨(some 51), none, false, .ext (.t 47) 1⟩,
 ⟨(some 52), none, false, .ext (.t 47) 2⟩,
 ⟨(some 3), none, false, .mov (.t 50)⟩,
 ⟨(some 4), none, false, .mov (.t 51)⟩,
 ⟨(some 5), none, false, .mov (.t 52)⟩])
 (.seq
 (.reg false [0, 3, 4, 5, 6, 7] [⟨(some 54), none, false, .mov (.t 3)⟩,
 ⟨(some 55), none, false, .mov (.t 4)⟩,
 ⟨(some 56), none, false, .mov (.t 5)⟩,
 ⟨(some 57), none, true, .call 48 [(.t 54), (.t 55), (.t 56)]⟩,
 ⟨(some 53), none, false, .mov (.t 57)⟩,
 ⟨(some 58), none, false, .ext (.t 53) 0⟩,
 ⟨(some 59), none, false, .ext (.t 53) 1⟩,
 ⟨(some 6), none, false, .mov (.t 58)⟩,
 ⟨(some 7), none, false, .mov (.t 59)⟩])
 (.seq
 (.seq
 (.reg false [0, 3, 4, 5, 6, 7, 8, 9] [⟨(some 61), none, false, .mov (.t 3)⟩,
 ⟨(some 62), none, false, .mov (.t 4)⟩,
 ⟨(some 63), none, false, .mov (.t 5)⟩,
 ⟨(some 64), none, true, .call 49 [(.t 61), (.t 62), (.t 63)]⟩,
 ⟨(some 60), none, false, .mov (.t 64)⟩,
 ⟨(some 65), none, false, .ext (.t 60) 0⟩,
 ⟨(some 66), none, false, .ext (.t 60) 1⟩,
 ⟨(some 8), none, false, .mov (.t 65)⟩,
 ⟨(some 9), none, false, .mov (.t 66)⟩])
 (.seq
 (.reg false [0, 3, 4, 5, 6, 7, 75] [⟨(some 67), none, false, .mov (.t 7)⟩,
 ⟨(some 68), none, false, .mov (.t 9)⟩,
 ⟨(some 69), none, false, .bb .neq (.t 67) (.t 68)⟩,
 ⟨(some 70), none, false, .mov (.t 69)⟩,
 ⟨(some 71), (some (70, false)), false, .mov (.t 6)⟩,
 ⟨(some 72), (some (70, false)), false, .mov (.t 8)⟩,
 ⟨(some 73), (some (70, false)), true, .call 38 [(.t 71), (.t 72)]⟩,
 ⟨(some 74), (some (70, false)), false, .un .not (.t 73)⟩,
 ⟨(some 75), none, false, .pick (.t 70) (.k (.d (.bool true))) (.t 74)⟩])
 (.cond (.t 75)
 (.seq
 (.reg false [2] [⟨(some 2), none, false, .mov (.k (.d (.bool false)))⟩])
 .ret)
 .skip)))
 (.seq
 (.seq
 (.reg false [0, 3, 4, 5, 6, 76] [⟨(some 76), none, false, .mov (.t 7)⟩])
 (.cond (.t 76)
 (.seq
 (.reg false [0, 4, 5, 6, 10, 11] [⟨(some 78), none, false, .mov (.t 3)⟩,
 ⟨(some 79), none, false, .mov (.t 4)⟩,
 ⟨(some 80), none, true, .call 10 [(.t 78), (.t 79)]⟩,
 ⟨(some 77), none, false, .mov (.t 80)⟩,
 ⟨(some 81), none, false, .ext (.t 77) 0⟩,
 ⟨(some 82), none, false, .ext (.t 77) 1⟩,
 ⟨(some 10), none, false, .mov (.t 81)⟩,
 ⟨(some 11), none, false, .mov (.t 82)⟩])
 (.seq
 (.reg false [0, 4, 5, 6, 10, 11, 12, 13] [⟨(some 84), none, false, .mov (.t 6)⟩,
 ⟨(some 85), none, false, .mov (.t 4)⟩,
 ⟨(some 86), none, true, .call 10 [(.t 84), (.t 85)]⟩,
 ⟨(some 83), none, false, .mov (.t 86)⟩,
 ⟨(some 87), none, false, .ext (.t 83) 0⟩,
 ⟨(some 88), none, false, .ext (.t 83) 1⟩,
 ⟨(some 12), none, false, .mov (.t 87)⟩,
 ⟨(some 13), none, false, .mov (.t 88)⟩])
 (.seq
 (.reg false [0, 5, 6, 10, 11, 12, 13, 15] [⟨(some 90), none, false, .mov (.t 6)⟩,
 ⟨(some 91), none, false, .mov (.t 4)⟩,
 ⟨(some 92), none, true, .call 50 [(.t 90), (.t 91), (.k (.d (.bool true)))]⟩,
 ⟨(some 89), none, false, .mov (.t 92)⟩,
 ⟨(some 93), none, false, .ext (.t 89) 0⟩,
 ⟨(some 94), none, false, .ext (.t 89) 1⟩,
 ⟨(some 14), none, false, .mov (.t 93)⟩,
 ⟨(some 15), none, false, .mov (.t 94)⟩])
 (.seq
 (.reg false [0, 131] [⟨(some 95), none, false, .mov (.t 11)⟩,
 ⟨(some 96), none, false, .un .not (.t 95)⟩,
 ⟨(some 97), none, false, .mov (.t 96)⟩,
 ⟨(some 98), (some (97, false)), false, .mov (.t 13)⟩,
 ⟨(some 99), (some (97, false)), false, .un .not (.t 98)⟩,
 ⟨(some 100), none, false, .pick (.t 97) (.k (.d (.bool true))) (.t 99)⟩,
 ⟨(some 101), none, false, .mov (.t 100)⟩,
 ⟨(some 102), (some (101, false)), false, .mov (.t 10)⟩,
 ⟨(some 103), (some (101, false)), false, .len false (.t 102)⟩,
 ⟨(some 104), (some (101, false)), false, .mov (.t 12)⟩,
 ⟨(some 105), (some (101, false)), false, .len false (.t 104)⟩,
 ⟨(some 106), (some (101, false)), false, .bin .add (.t 105) (.k (.d (.int .i64 1)))⟩,
 ⟨(some 107), (some (101, false)), false, .bin .neq (.t 103) (.t 106)⟩,
 ⟨(some 108), none, false, .pick (.t 101) (.k (.d (.bool true))) (.t 107)⟩,
 ⟨(some 109), none, false, .mov (.t 108)⟩,
 ⟨(some 110), (some (109, false)), false, .mov (.t 10)⟩,
 ⟨(some 111), (some (109, false)), false, .mov (.t 5)⟩,
 ⟨(some 112), (some (109, false)), true, .call 28 [(.t 110), (.t 111)]⟩,
 ⟨(some 113), (some (109, false)), false, .un .not (.t 112)⟩,
 ⟨(some 114), none, false, .pick (.t 109) (.k (.d (.bool true))) (.t 113)⟩,
 ⟨(some 115), none, false, .mov (.t 114)⟩,
 ⟨(some 116), (some (115, false)), false, .mov (.t 12)⟩,
 ⟨(some 117), (some (115, false)), false, .mov (.t 5)⟩,
 ⟨(some 118), (some (115, false)), true, .call 28 [(.t 116), (.t 117)]⟩,
 ⟨(some 119), none, false, .pick (.t 115) (.k (.d (.bool true))) (.t 118)⟩,
 ⟨(some 120), none, false, .mov (.t 119)⟩,
 ⟨(some 121), (some (120, false)), false, .mov (.t 15)⟩,
 ⟨(some 122), (some (120, false)), false, .mov (.t 12)⟩,
 ⟨(some 123), (some (120, false)), false, .len false (.t 122)⟩,
 ⟨(some 124), (some (120, false)), false, .bin .eql (.t 123) (.k (.d (.int .i64 0)))⟩,
 ⟨(some 125), (some (120, false)), false, .bb .neq (.t 121) (.t 124)⟩,
 ⟨(some 126), none, false, .pick (.t 120) (.k (.d (.bool true))) (.t 125)⟩,
 ⟨(some 127), none, false, .mov (.t 126)⟩,
 ⟨(some 128), (some (127, false)), false, .mov (.t 6)⟩,
 ⟨(some 129), (some (127, false)), true, .call 51 [(.t 128)]⟩,
 ⟨(some 130), (some (127, false)), false, .un .not (.t 129)⟩,
 ⟨(some 131), none, false, .pick (.t 127) (.k (.d (.bool true))) (.t 130)⟩])
 (.cond (.t 131)
 (.seq
 (.reg false [2] [⟨(some 2), none, false, .mov (.k (.d (.bool false)))⟩])
 .ret)
 .skip)))))
 .skip))
 (.seq
 (.reg false [0, 16, 17, 18, 19] [⟨(some 133), none, false, .mov (.t 0)⟩,
 ⟨(some 134), none, true, .call 52 [(.t 133)]⟩,
 ⟨(some 132), none, false, .mov (.t 134)⟩,
 ⟨(some 135), none, false, .ext (.t 132) 0⟩,
 ⟨(some 136), none, false, .ext (.t 132) 1⟩,
 ⟨(some 137), none, false, .ext (.t 132) 2⟩,
 ⟨(some 138), none, false, .ext (.t 132) 3⟩,
 ⟨(some 16), none, false, .mov (.t 135)⟩,
 ⟨(some 17), none, false, .mov (.t 136)⟩,
 ⟨(some 18), none, false, .mov (.t 137)⟩,
 ⟨(some 19), none, false, .mov (.t 138)⟩])
 (.seq
 (.reg false [0, 16, 17, 18, 19, 20, 21, 22] [⟨(some 140), none, false, .mov (.t 16)⟩,
 ⟨(some 141), none, false, .mov (.t 17)⟩,
 ⟨(some 142), none, false, .mov (.t 18)⟩,
 ⟨(some 143), none, false, .mov (.t 19)⟩,
 ⟨(some 144), none, true, .call 53 [(.t 140), (.t 141), (.t 142), (.t 143)]⟩,
 ⟨(some 139), none, false, .mov (.t 144)⟩,
 ⟨(some 145), none, false, .ext (.t 139) 0⟩,
 ⟨(some 146), none, false, .ext (.t 139) 1⟩,
 ⟨(some 147), none, false, .ext (.t 139) 2⟩,
 ⟨(some 20), none, false, .mov (.t 145)⟩,
 ⟨(some 21), none, false, .mov (.t 146)⟩,
 ⟨(some 22), none, false, .mov (.t 147)⟩])
 (.seq
 (.seq
 (.reg false [0, 19, 20, 21, 22, 23, 24, 25] [⟨(some 149), none, false, .mov (.t 16)⟩,
 ⟨(some 150), none, false, .mov (.t 17)⟩,
 ⟨(some 151), none, false, .mov (.t 18)⟩,
 ⟨(some 152), none, false, .mov (.t 19)⟩,
 ⟨(some 153), none, true, .call 54 [(.t 149), (.t 150), (.t 151), (.t 152)]⟩,
 ⟨(some 148), none, false, .mov (.t 153)⟩,
 ⟨(some 154), none, false, .ext (.t 148) 0⟩,
 ⟨(some 155), none, false, .ext (.t 148) 1⟩,
 ⟨(some 156), none, false, .ext (.t 148) 2⟩,
 ⟨(some 23), none, false, .mov (.t 154)⟩,
 ⟨(some 24), none, false, .mov (.t 155)⟩,
 ⟨(some 25), none, false, .mov (.t 156)⟩])
 (.seq
 (.reg false [0, 19, 20, 21, 22, 170] [⟨(some 157), none, false, .mov (.t 22)⟩,
 ⟨(some 158), none, false, .mov (.t 25)⟩,
 ⟨(some 159), none, false, .bb .neq (.t 157) (.t 158)⟩,
 ⟨(some 160), none, false, .mov (.t 159)⟩,
 ⟨(some 161), (some (160, false)), false, .mov (.t 21)⟩,
 ⟨(some 162), (some (160, false)), false, .mov (.t 24)⟩,
 ⟨(some 163), (some (160, false)), false, .bin .neq (.t 161) (.t 162)⟩,
 ⟨(some 164), none, false, .pick (.t 160) (.k (.d (.bool true))) (.t 163)⟩,
 ⟨(some 165), none, false, .mov (.t 164)⟩,
 ⟨(some 166), (some (165, false)), false, .mov (.t 20)⟩,
 ⟨(some 167), (some (165, false)), false, .mov (.t 23)⟩,
 ⟨(some 168), (some (165, false)), true, .call 38 [(.t 166), (.t 167)]⟩,
 ⟨(some 169), (some (165, false)), false, .un .not (.t 168)⟩,
 ⟨(some 170), none, false, .pick (.t 165) (.k (.d (.bool true))) (.t 169)⟩])
 (.cond (.t 170)
 (.seq
 (.reg false [2] [⟨(some 2), none, false, .mov (.k (.d (.bool false)))⟩])
 .ret)
 .skip)))
 (.seq
 (.seq
 (.reg false [0, 19, 20, 21, 171] [⟨(some 171), none, false, .mov (.t 22)⟩])
 (.cond (.t 171)
 (.seq
 (.reg false [0, 19, 26, 27] [⟨(some 173), none, false, .mov (.t 20)⟩,
 ⟨(some 174), none, false, .mov (.t 21)⟩,
 ⟨(some 175), none, true, .call 10 [(.t 173), (.t 174)]⟩,
 ⟨(some 172), none, false, .mov (.t 175)⟩,
 ⟨(some 176), none, false, .ext (.t 172) 0⟩,
 ⟨(some 177), none, false, .ext (.t 172) 1⟩,
 ⟨(some 26), none, false, .mov (.t 176)⟩,
 ⟨(some 27), none, false, .mov (.t 177)⟩])
 (.seq
 (.reg false [0, 185] [⟨(some 178), none, false, .mov (.t 27)⟩,
 ⟨(some 179), none, false, .un .not (.t 178)⟩,
 ⟨(some 180), none, false, .mov (.t 179)⟩,
 ⟨(some 181), (some (180, false)), false, .mov (.t 26)⟩,
 ⟨(some 182), (some (180, false)), false, .mov (.t 19)⟩,
 ⟨(some 183), (some (180, false)), true, .call 27 [(.t 181), (.t 182)]⟩,
 ⟨(some 184), (some (180, false)), false, .un .not (.t 183)⟩,
 ⟨(some 185), none, false, .pick (.t 180) (.k (.d (.bool true))) (.t 184)⟩])
 (.cond (.t 185)
 (.seq
 (.reg false [2] [⟨(some 2), none, false, .mov (.k (.d (.bool false)))⟩])
 .ret)
 .skip)))
 .skip))
 (.seq
 (.reg false [0, 28, 29, 30] [⟨(some 187), none, false, .mov (.t 0)⟩,
 ⟨(some 188), none, true, .call 55 [(.t 187)]⟩,
 ⟨(some 186), none, false, .mov (.t 188)⟩,
 ⟨(some 189), none, false, .ext (.t 186) 0⟩,
 ⟨(some 190), none, false, .ext (.t 186) 1⟩,
 ⟨(some 191), none, false, .ext (.t 186) 2⟩,
 ⟨(some 28), none, false, .mov (.t 189)⟩,
 ⟨(some 29), none, false, .mov (.t 190)⟩,
 ⟨(some 30), none, false, .mov (.t 191)⟩])
 (.seq
 (.reg false [0, 28, 29, 30, 31, 32] [⟨(some 193), none, false, .mov (.t 28)⟩,
 ⟨(some 194), none, false, .mov (.t 29)⟩,
 ⟨(some 195), none, false, .mov (.t 30)⟩,
 ⟨(some 196), none, true, .call 50 [(.t 193), (.t 194), (.t 195)]⟩,
 ⟨(some 192), none, false, .mov (.t 196)⟩,
 ⟨(some 197), none, false, .ext (.t 192) 0⟩,
 ⟨(some 198), none, false, .ext (.t 192) 1⟩,
 ⟨(some 31), none, false, .mov (.t 197)⟩,
 ⟨(some 32), none, false, .mov (.t 198)⟩])
 (.seq
 (.seq
 (.reg false [0, 31, 32, 33, 34] [⟨(some 200), none, false, .mov (.t 28)⟩,
 ⟨(some 201), none, false, .mov (.t 29)⟩,
 ⟨(some 202), none, false, .mov (.t 30)⟩,
 ⟨(some 203), none, true, .call 56 [(.t 200), (.t 201), (.t 202)]⟩,
 ⟨(some 199), none, false, .mov (.t 203)⟩,
 ⟨(some 204), none, false, .ext (.t 199) 0⟩,
 ⟨(some 205), none, false, .ext (.t 199) 1⟩,
 ⟨(some 33), none, false, .mov (.t 204)⟩,
 ⟨(some 34), none, false, .mov (.t 205)⟩])
 (.seq
 (.reg false [0, 31, 32, 214] [⟨(some 206), none, false, .mov (.t 32)⟩,
 ⟨(some 207), none, false, .mov (.t 34)⟩,
 ⟨(some 208), none, false, .bb .neq (.t 206) (.t 207)⟩,
 ⟨(some 209), none, false, .mov (.t 208)⟩,
 ⟨(some 210), (some (209, false)), false, .mov (.t 31)⟩,
 ⟨(some 211), (some (209, false)), false, .mov (.t 33)⟩,
 ⟨(some 212), (some (209, false)), true, .call 38 [(.t 210), (.t 211)]⟩,
 ⟨(some 213), (some (209, false)), false, .un .not (.t 212)⟩,
 ⟨(some 214), none, false, .pick (.t 209) (.k (.d (.bool true))) (.t 213)⟩])
 (.cond (.t 214)
 (.seq
 (.reg false [2] [⟨(some 2), none, false, .mov (.k (.d (.bool false)))⟩])
 .ret)
 .skip)))
 (.seq
 (.seq
 (.reg false [0, 31, 215] [⟨(some 215), none, false, .mov (.t 32)⟩])
 (.cond (.t 215)
 (.seq
 (.reg false [0, 36, 37] [⟨(some 217), none, false, .mov (.t 31)⟩,
 ⟨(some 218), none, true, .call 45 [(.t 217)]⟩,
 ⟨(some 216), none, false, .mov (.t 218)⟩,
 ⟨(some 219), none, false, .ext (.t 216) 0⟩,
 ⟨(some 220), none, false, .ext (.t 216) 1⟩,
 ⟨(some 221), none, false, .ext (.t 216) 2⟩,
 ⟨(some 35), none, false, .mov (.t 219)⟩,
 ⟨(some 36), none, false, .mov (.t 220)⟩,
 ⟨(some 37), none, false, .mov (.t 221)⟩])
 (.seq
 (.reg false [0, 227] [⟨(some 222), none, false, .mov (.t 37)⟩,
 ⟨(some 223), none, false, .un .not (.t 222)⟩,
 ⟨(some 224), none, false, .mov (.t 223)⟩,
 ⟨(some 225), (some (224, false)), false, .mov (.t 36)⟩,
 ⟨(some 226), (some (224, false)), false, .bin .lss (.t 225) (.k (.d (.int .i64 1)))⟩,
 ⟨(some 227), none, false, .pick (.t 224) (.k (.d (.bool true))) (.t 226)⟩])
 (.cond (.t 227)
 (.seq
 (.reg false [2] [⟨(some 2), none, false, .mov (.k (.d (.bool false)))⟩])
 .ret)
 .skip)))
 .skip))
 (.seq
 (.reg false [0, 38, 39] [⟨(some 229), none, false, .mov (.t 0)⟩,
 ⟨(some 230), none, true, .call 57 [(.t 229)]⟩,
 ⟨(some 228), none, false, .mov (.t 230)⟩,
 ⟨(some 231), none, false, .ext (.t 228) 0⟩,
 ⟨(some 232), none, false, .ext (.t 228) 1⟩,
 ⟨(some 38), none, false, .mov (.t 231)⟩,
 ⟨(some 39), none, false, .mov (.t 232)⟩])
 (.seq
 (.reg false [0, 38, 39, 40, 41] [⟨(some 234), none, false, .mov (.t 38)⟩,
 ⟨(some 235), none, false, .mov (.t 39)⟩,
 ⟨(some 236), none, true, .call 10 [(.t 234), (.t 235)]⟩,
 ⟨(some 233), none, false, .mov (.t 236)⟩,
 ⟨(some 237), none, false, .ext (.t 233) 0⟩,
 ⟨(some 238), none, false, .ext (.t 233) 1⟩,
 ⟨(some 40), none, false, .mov (.t 237)⟩,
 ⟨(some 41), none, false, .mov (.t 238)⟩])
 (.seq
 (.reg false [0, 40, 41, 42, 43] [⟨(some 240), none, false, .mov (.t 38)⟩,
 ⟨(some 241), none, false, .mov (.t 39)⟩,
 ⟨(some 242), none, true, .call 8 [(.t 240), (.t 241)]⟩,
 ⟨(some 239), none, false, .mov (.t 242)⟩,
 ⟨(some 243), none, false, .ext (.t 239) 0⟩,
 ⟨(some 244), none, false, .ext (.t 239) 1⟩,
 ⟨(some 42), none, false, .mov (.t 243)⟩,
 ⟨(some 43), none, false, .mov (.t 244)⟩])
 (.seq
 (.reg false [40, 41, 42, 43, 44] [⟨(some 245), none, false, .mov (.t 0)⟩,
 ⟨(some 246), none, true, .call 58 [(.t 245)]⟩,
 ⟨(some 44), none, true, .alloc (.st (.cons (.int .i64 0) (.cons (.int .i64 0) (.cons (.int .i64 0) (.cons (.sl true 1 .nil) (.cons (.sl true 1 .nil) (.cons (.int .i64 0) .nil)))))))⟩,
 ⟨none, none, true, .st 6 (.t 44) (.t 246)⟩])
 (.seq
 (.reg true [2] [⟨(some 247), none, false, .mov (.t 41)⟩,
 ⟨(some 248), none, false, .mov (.t 43)⟩,
 ⟨(some 249), none, false, .bb .eql (.t 247) (.t 248)⟩,
 ⟨(some 250), none, false, .mov (.t 249)⟩,
 ⟨(some 251), (some (250, true)), false, .mov (.t 40)⟩,
 ⟨(some 252), (some (250, true)), false, .mov (.t 42)⟩,
 ⟨(some 253), (some (250, true)), false, .callP 27 [(.t 251), (.t 252)]⟩,
 ⟨(some 254), none, false, .pick (.t 250) (.t 253) (.k (.d (.bool false)))⟩,
 ⟨(some 255), none, false, .mov (.t 254)⟩,
 ⟨(some 256), (some (255, true)), false, .ld (some 6) (.t 44)⟩,
 ⟨(some 257), (some (255, true)), false, .callP 59 [(.t 256)]⟩,
 ⟨(some 258), (some (255, true)), false, .ld (some 6) (.t 44)⟩,
 ⟨(some 259), (some (255, true)), false, .callP 60 [(.t 258)]⟩,
 ⟨(some 260), (some (255, true)), false, .bb .eql (.t 257) (.t 259)⟩,
 ⟨(some 261), none, false, .pick (.t 255) (.t 260) (.k (.d (.bool false)))⟩,
 ⟨(some 2), none, false, .mov (.t 261)⟩])
 .ret)))))))))))))))))))
theorem c6 : (Go.Proofs.Try.f6).body.bind (comp prog.P (1, (Go.Proofs.Try.f6).ntmps) lv6) = some m6 := by kernel_rfl
theorem r6 : resOK prog.P (Go.Proofs.Try.f6).results.toList = true := by kernel_rfl

/-- laws.szAppealS -/
def lv7 : List (Nat × List Nat) := [(0, [0, 1]), (1, [0, 1]), (2, [0, 1, 11]), (3, [4]), (4, [0, 1, 5]), (5, [0, 1, 5, 15]), (6, [0, 1, 5]), (7, [0, 1, 5]), (8, [0, 1, 5, 25]), (9, [4]), (10, [4])]
def m7 : MC :=
  (.seq
 (.reg false [0, 1] [⟨(some 4), none, false, .mov (.k (.d (.int .i64 0)))⟩])
 (.seq
 (.reg false [0, 1] [⟨(some 6), none, false, .mov (.t 1)⟩,
 ⟨(some 7), none, false, .mov (.t 0)⟩,
 ⟨(some 8), none, false, .len false (.t 7)⟩,
 ⟨(some 9), none, false, .bin .sub (.t 6) (.t 8)⟩,
 ⟨(some 1), none, false, .mov (.t 9)⟩])
 (.seq
 (.seq
 (.reg false [0, 1, 11] [⟨(some 10), none, false, .mov (.t 1)⟩,
 ⟨(some 11), none, false, .bin .lss (.t 10) (.k (.d (.int .i64 0)))⟩])
 (.cond (.t 11)
 (.seq
 (.reg false [4] [⟨(some 4), none, false, .mov (.k (.d (.int .i64 (-1))))⟩])
 .ret)
 .skip))
 (.seq
 (.seq
 (.reg false [0, 1, 5] [⟨(some 5), none, false, .mov (.k (.d (.int .i64 0)))⟩])
 (.block 0
 (.loop
 (.seq
 (.seq
 (.reg false [0, 1, 5, 15] [⟨(some 12), none, false, .mov (.t 5)⟩,
 ⟨(some 13), none, false, .mov (.t 0)⟩,
 ⟨(some 14), none, false, .len false (.t 13)⟩,
 ⟨(some 15), none, false, .bin .lss (.t 12) (.t 14)⟩])
 (.cond (.t 15)
 .skip
 (.exit 0)))
 (.seq
 (.block 1
 (.seq
 (.reg false [0, 1, 5] [⟨(some 18), none, false, .mov (.t 0)⟩,
 ⟨(some 19), none, false, .mov (.t 5)⟩,
 ⟨(some 20), none, false, .ia 6 (.t 18) (.t 19)⟩,
 ⟨(some 21), none, false, .ld (some 6) (.t 20)⟩,
 ⟨(some 22), none, false, .mov (.t 1)⟩,
 ⟨(some 23), none, true, .call 61 [(.t 21), (.t 22)]⟩,
 ⟨(some 1), none, false, .mov (.t 23)⟩])
 (.seq
 (.reg false [0, 1, 5, 25] [⟨(some 24), none, false, .mov (.t 1)⟩,
 ⟨(some 25), none, false, .bin .lss (.t 24) (.k (.d (.int .i64 0)))⟩])
 (.cond (.t 25)
 (.seq
 (.reg false [4] [⟨(some 4), none, false, .mov (.k (.d (.int .i64 (-1))))⟩])
 .ret)
 .skip))))
 (.reg false [0, 1, 5] [⟨(some 16), none, false, .mov (.t 5)⟩,
 ⟨(some 17), none, false, .bin .add (.t 16) (.k (.d (.int .i64 1)))⟩,
 ⟨(some 5), none, false, .mov (.t 17)⟩]))))))
 (.seq
 (.reg false [4] [⟨(some 26), none, false, .mov (.t 1)⟩,
 ⟨(some 4), none, false, .mov (.t 26)⟩])
 .ret)))))
theorem c7 : (Go.Proofs.Try.f7).body.bind (comp prog.P (1, (Go.Proofs.Try.f7).ntmps) lv7) = some m7 := by kernel_rfl
theorem r7 : resOK prog.P (Go.Proofs.Try.f7).results.toList = true := by kernel_rfl

/-- spec.NotHeard -/
def lv8 : List (Nat × List Nat) := [(0, [0, 1]), (1, [0, 1, 6]), (2, [0, 6, 7]), (3, [0, 6, 7, 19]), (4, [4, 5]), (5, [0, 6, 7, 8]), (6, [0, 6, 7, 8, 28]), (7, [0, 6, 7, 8]), (8, [0, 6, 7, 8, 45]), (9, [0, 6, 7, 8]), (10, [4, 5])]
def m8 : MC :=
  (.seq
 (.reg false [0, 1] [⟨(some 4), none, false, .mov (.k .nil)⟩,
 ⟨(some 5), none, false, .mov (.k (.d (.bool false)))⟩])
 (.seq
 (.reg false [0, 1, 6] [⟨(some 9), none, true, .bs 1 0 (.int .i64 0) []⟩,
 ⟨(some 6), none, false, .mov (.t 9)⟩])
 (.seq
 (.reg false [0, 6, 7] [⟨(some 10), none, false, .mov (.t 0)⟩,
 ⟨(some 11), none, false, .mov (.t 1)⟩,
 ⟨(some 12), none, true, .call 62 [(.t 10), (.t 11)]⟩,
 ⟨(some 7), none, false, .mov (.t 12)⟩])
 (.seq
 (.seq
 (.reg false [0, 6, 7, 19] [⟨(some 13), none, false, .mov (.t 0)⟩,
 ⟨(some 14), none, true, .call 63 [(.t 13)]⟩,
 ⟨(some 15), none, false, .un .not (.t 14)⟩,
 ⟨(some 16), none, false, .mov (.t 15)⟩,
 ⟨(some 17), (some (16, false)), false, .mov (.t 7)⟩,
 ⟨(some 18), (some (16, false)), false, .bin .lss (.t 17) (.k (.d (.int .i64 0)))⟩,
 ⟨(some 19), none, false, .pick (.t 16) (.k (.d (.bool true))) (.t 18)⟩])
 (.cond (.t 19)
 (.seq
 (.reg false [4, 5] [⟨(some 20), none, false, .mov (.t 6)⟩,
 ⟨(some 4), none, false, .mov (.t 20)⟩,
 ⟨(some 5), none, false, .mov (.k (.d (.bool false)))⟩])
 .ret)
 .skip))
 (.seq
 (.seq
 (.reg false [0, 6, 7, 8] [⟨(some 8), none, false, .mov (.k (.d (.int .i64 0)))⟩])
 (.block 0
 (.loop
 (.seq
 (.seq
 (.reg false [0, 6, 7, 8, 28] [⟨(some 21), none, false, .mov (.t 8)⟩,
 ⟨(some 22), none, false, .mov (.t 0)⟩,
 ⟨(some 23), none, false, .mov (.t 7)⟩,
 ⟨(some 24), none, false, .ia 6 (.t 22) (.t 23)⟩,
 ⟨(some 25), none, false, .fa 3 3 (.t 24)⟩,
 ⟨(some 26), none, false, .ld none (.t 25)⟩,
 ⟨(some 27), none, false, .len false (.t 26)⟩,
 ⟨(some 28), none, false, .bin .lss (.t 21) (.t 27)⟩])
 (.cond (.t 28)
 .skip
 (.exit 0)))
 (.seq
 (.block 1
 (.seq
 (.reg true [0, 6, 7, 8, 45] [⟨(some 31), none, false, .mov (.t 0)⟩,
 ⟨(some 32), none, false, .mov (.t 7)⟩,
 ⟨(some 33), none, false, .ia 6 (.t 31) (.t 32)⟩,
 ⟨(some 34), none, false, .fa 4 4 (.t 33)⟩,
 ⟨(some 35), none, false, .ld none (.t 34)⟩,
 ⟨(some 36), none, false, .mov (.t 0)⟩,
 ⟨(some 37), none, false, .mov (.t 7)⟩,
 ⟨(some 38), none, false, .ia 6 (.t 36) (.t 37)⟩,
 ⟨(some 39), none, false, .fa 3 3 (.t 38)⟩,
 ⟨(some 40), none, false, .ld none (.t 39)⟩,
 ⟨(some 41), none, false, .mov (.t 8)⟩,
 ⟨(some 42), none, false, .ia 1 (.t 40) (.t 41)⟩,
 ⟨(some 43), none, false, .ld none (.t 42)⟩,
 ⟨(some 44), none, false, .callP 64 [(.t 35), (.t 43)]⟩,
 ⟨(some 45), none, false, .un .not (.t 44)⟩])
 (.cond (.t 45)
 (.reg false [0, 6, 7, 8] [⟨(some 46), none, false, .mov (.t 6)⟩,
 ⟨(some 47), none, false, .mov (.t 0)⟩,
 ⟨(some 48), none, false, .mov (.t 7)⟩,
 ⟨(some 49), none, false, .ia 6 (.t 47) (.t 48)⟩,
 ⟨(some 50), none, false, .fa 3 3 (.t 49)⟩,
 ⟨(some 51), none, false, .ld none (.t 50)⟩,
 ⟨(some 52), none, false, .mov (.t 8)⟩,
 ⟨(some 53), none, false, .ia 1 (.t 51) (.t 52)⟩,
 ⟨(some 54), none, false, .ld none (.t 53)⟩,
 ⟨(some 55), none, true, .bs 1 1 (.int .i64 0) [(0, (.t 54))]⟩,
 ⟨(some 56), none, true, .app 1 8 (.t 46) (.t 55)⟩,
 ⟨(some 6), none, false, .mov (.t 56)⟩])
 .skip)))
 (.reg false [0, 6, 7, 8] [⟨(some 29), none, false, .mov (.t 8)⟩,
 ⟨(some 30), none, false, .bin .add (.t 29) (.k (.d (.int .i64 1)))⟩,
 ⟨(some 8), none, false, .mov (.t 30)⟩]))))))
 (.seq
 (.reg false [4, 5] [⟨(some 57), none, false, .mov (.t 6)⟩,
 ⟨(some 4), none, false, .mov (.t 57)⟩,
 ⟨(some 5), none, false, .mov (.k (.d (.bool true)))⟩])
 .ret))))))
theorem c8 : (Go.Proofs.Try.f8).body.bind (comp prog.P (2, (Go.Proofs.Try.f8).ntmps) lv8) = some m8 := by kernel_rfl
theorem r8 : resOK prog.P (Go.Proofs.Try.f8).results.toList = true := by kernel_rfl

/-- laws.toAppealS -/
def lv9 : List (Nat × List Nat) := [(0, [0]), (1, [0, 3]), (2, [0, 3, 4]), (3, [0, 3, 4, 11]), (4, [0, 3, 4]), (5, [0, 3, 4]), (6, [2])]
def m9 : MC :=
  (.seq
 (.reg false [0] [⟨(some 2), none, false, .mov (.k .nil)⟩])
 (.seq
 (.reg false [0, 3] [⟨(some 5), none, false, .mov (.t 0)⟩,
 ⟨(some 6), none, false, .len false (.t 5)⟩,
 ⟨(some 7), none, true, .mk 6 80 (.st (.cons (.int .i64 0) (.cons (.int .i64 0) (.cons (.int .i64 0) (.cons (.sl true 1 .nil) (.cons (.sl true 1 .nil) (.cons (.int .i64 0) .nil))))))) (.t 6)⟩,
 ⟨(some 3), none, false, .mov (.t 7)⟩])
 (.seq
 (.seq
 (.reg false [0, 3, 4] [⟨(some 4), none, false, .mov (.k (.d (.int .i64 0)))⟩])
 (.block 0
 (.loop
 (.seq
 (.seq
 (.reg false [0, 3, 4, 11] [⟨(some 8), none, false, .mov (.t 4)⟩,
 ⟨(some 9), none, false, .mov (.t 0)⟩,
 ⟨(some 10), none, false, .len false (.t 9)⟩,
 ⟨(some 11), none, false, .bin .lss (.t 8) (.t 10)⟩])
 (.cond (.t 11)
 .skip
 (.exit 0)))
 (.seq
 (.block 1
 (.reg false [0, 3, 4] [⟨(some 14), none, false, .mov (.t 3)⟩,
 ⟨(some 15), none, false, .mov (.t 4)⟩,
 ⟨(some 16), none, false, .mov (.t 0)⟩,
 ⟨(some 17), none, false, .mov (.t 4)⟩,
 ⟨(some 18), none, false, .ia 6 (.t 16) (.t 17)⟩,
 ⟨(some 19), none, false, .ld (some 6) (.t 18)⟩,
 ⟨(some 20), none, true, .call 65 [(.t 19)]⟩,
 ⟨(some 21), none, false, .ia 6 (.t 14) (.t 15)⟩,
 ⟨none, none, true, .st 6 (.t 21) (.t 20)⟩]))
 (.reg false [0, 3, 4] [⟨(some 12), none, false, .mov (.t 4)⟩,
 ⟨(some 13), none, false, .bin .add (.t 12) (.k (.d (.int .i64 1)))⟩,
 ⟨(some 4), none, false, .mov (.t 13)⟩]))))))
 (.seq
 (.reg false [2] [⟨(some 22), none, false, .mov (.t 3)⟩,
 ⟨(some 2), none, false, .mov (.t 22)⟩])
 .ret))))
theorem c9 : (Go.Proofs.Try.f9).body.bind (comp prog.P (1, (Go.Proofs.Try.f9).ntmps) lv9) = some m9 := by kernel_rfl
theorem r9 : resOK prog.P (Go.Proofs.Try.f9).results.toList = true := by kernel_rfl

/-- impl.NotHeard -/
def lv10 : List (Nat × List Nat) := [(0, [1, 2]), (1, [2, 6]), (2, [2, 6, 16]), (3, [4, 5]), (4, [4, 5])]
def m10 : MC :=
  (.seq
 (.reg false [1, 2] [⟨(some 2), none, true, .box (.t 0)⟩,
 ⟨(some 4), none, false, .mov (.k .nil)⟩,
 ⟨(some 5), none, false, .mov (.k (.d (.bool false)))⟩])
 (.seq
 (.reg false [2, 6] [⟨(some 7), none, false, .ld none (.t 2)⟩,
 ⟨(some 8), none, false, .mov (.t 1)⟩,
 ⟨(some 9), none, true, .call 66 [(.t 7), (.t 8)]⟩,
 ⟨(some 6), none, true, .alloc (.int .i64 0)⟩,
 ⟨none, none, true, .st 1 (.t 6) (.t 9)⟩])
 (.seq
 (.seq
 (.reg false [2, 6, 16] [⟨(some 10), none, false, .ld none (.t 2)⟩,
 ⟨(some 11), none, true, .call 51 [(.t 10)]⟩,
 ⟨(some 12), none, false, .un .not (.t 11)⟩,
 ⟨(some 13), none, false, .mov (.t 12)⟩,
 ⟨(some 14), (some (13, false)), false, .ld none (.t 6)⟩,
 ⟨(some 15), (some (13, false)), false, .bin .lss (.t 14) (.k (.d (.int .i64 0)))⟩,
 ⟨(some 16), none, false, .pick (.t 13) (.k (.d (.bool true))) (.t 15)⟩])
 (.cond (.t 16)
 (.seq
 (.reg false [4, 5] [⟨(some 4), none, false, .mov (.k .nil)⟩,
 ⟨(some 5), none, false, .mov (.k (.d (.bool false)))⟩])
 .ret)
 .skip))
 (.seq
 (.reg false [4, 5] [⟨(some 17), none, false, .ld none (.t 2)⟩,
 ⟨(some 18), none, false, .ld none (.t 6)⟩,
 ⟨(some 19), none, false, .ia 6 (.t 17) (.t 18)⟩,
 ⟨(some 20), none, false, .fa 3 3 (.t 19)⟩,
 ⟨(some 21), none, false, .ld none (.t 20)⟩,
 ⟨(some 22), none, true, .call 68 [(.t 21)]⟩,
 ⟨(some 23), none, false, .clos 69 [(.t 2), (.t 6)]⟩,
 ⟨(some 24), none, true, .call 67 [(.t 22), (.t 23)]⟩,
 ⟨(some 4), none, false, .mov (.t 24)⟩,
 ⟨(some 5), none, false, .mov (.k (.d (.bool true)))⟩])
 .ret))))
theorem c10 : (Go.Proofs.Try.f10).body.bind (comp prog.P (2, (Go.Proofs.Try.f10).ntmps) lv10) = some m10 := by kernel_rfl
theorem r10 : resOK prog.P (Go.Proofs.Try.f10).results.toList = true := by kernel_rfl

/-- laws.eqIntS -/
def lv11 : List (Nat × List Nat) := [(0, [0, 1]), (1, [0, 1, 10]), (2, [4]), (3, [0, 1, 5]), (4, [0, 1, 5, 14]), (5, [0, 1, 5]), (6, [0, 1, 5, 25]), (7, [4]), (8, [4])]
def m11 : MC :=
  (.seq
 (.reg false [0, 1] [⟨(some 4), none, false, .mov (.k (.d (.bool false)))⟩])
 (.seq
 (.seq
 (.reg false [0, 1, 10] [⟨(some 6), none, false, .mov (.t 0)⟩,
 ⟨(some 7), none, false, .len false (.t 6)⟩,
 ⟨(some 8), none, false, .mov (.t 1)⟩,
 ⟨(some 9), none, false, .len false (.t 8)⟩,
 ⟨(some 10), none, false, .bin .neq (.t 7) (.t 9)⟩])
 (.cond (.t 10)
 (.seq
 (.reg false [4] [⟨(some 4), none, false, .mov (.k (.d (.bool false)))⟩])
 .ret)
 .skip))
 (.seq
 (.seq
 (.reg false [0, 1, 5] [⟨(some 5), none, false, .mov (.k (.d (.int .i64 0)))⟩])
 (.block 0
 (.loop
 (.seq
 (.seq
 (.reg false [0, 1, 5, 14] [⟨(some 11), none, false, .mov (.t 5)⟩,
 ⟨(some 12), none, false, .mov (.t 0)⟩,
 ⟨(some 13), none, false, .len false (.t 12)⟩,
 ⟨(some 14), none, false, .bin .lss (.t 11) (.t 13)⟩])
 (.cond (.t 14)
 .skip
 (.exit 0)))
 (.seq
 (.block 1
 (.seq
 (.reg true [0, 1, 5, 25] [⟨(some 17), none, false, .mov (.t 0)⟩,
 ⟨(some 18), none, false, .mov (.t 5)⟩,
 ⟨(some 19), none, false, .ia 1 (.t 17) (.t 18)⟩,
 ⟨(some 20), none, false, .ld none (.t 19)⟩,
 ⟨(some 21), none, false, .mov (.t 1)⟩,
 ⟨(some 22), none, false, .mov (.t 5)⟩,
 ⟨(some 23), none, false, .ia 1 (.t 21) (.t 22)⟩,
 ⟨(some 24), none, false, .ld none (.t 23)⟩,
 ⟨(some 25), none, false, .bin .neq (.t 20) (.t 24)⟩])
 (.cond (.t 25)
 (.seq
 (.reg false [4] [⟨(some 4), none, false, .mov (.k (.d (.bool false)))⟩])
 .ret)
 .skip)))
 (.reg false [0, 1, 5] [⟨(some 15), none, false, .mov (.t 5)⟩,
 ⟨(some 16), none, false, .bin .add (.t 15) (.k (.d (.int .i64 1)))⟩,
 ⟨(some 5), none, false, .mov (.t 16)⟩]))))))
 (.seq
 (.reg false [4] [⟨(some 4), none, false, .mov (.k (.d (.bool true)))⟩])
 .ret))))
theorem c11 : (Go.Proofs.Try.f11).body.bind (comp prog.P (2, (Go.Proofs.Try.f11).ntmps) lv11) = some m11 := by kernel_rfl
theorem r11 : resOK prog.P (Go.Proofs.Try.f11).results.toList = true := by kernel_rfl

/-- laws.eqAppealS -/
def lv12 : List (Nat × List Nat) := [(0, [0, 1]), (1, [0, 1, 10]), (2, [4]), (3, [0, 1, 5]), (4, [0, 1, 5, 14]), (5, [0, 1, 5]), (6, [0, 1, 5, 26]), (7, [4]), (8, [4])]
def m12 : MC :=
  (.seq
 (.reg false [0, 1] [⟨(some 4), none, false, .mov (.k (.d (.bool false)))⟩])
 (.seq
 (.seq
 (.reg false [0, 1, 10] [⟨(some 6), none, false, .mov (.t 0)⟩,
 ⟨(some 7), none, false, .len false (.t 6)⟩,
 ⟨(some 8), none, false, .mov (.t 1)⟩,
 ⟨(some 9), none, false, .len false (.t 8)⟩,
 ⟨(some 10), none, false, .bin .neq (.t 7) (.t 9)⟩])
 (.cond (.t 10)
 (.seq
 (.reg false [4] [⟨(some 4), none, false, .mov (.k (.d (.bool false)))⟩])
 .ret)
 .skip))
 (.seq
 (.seq
 (.reg false [0, 1, 5] [⟨(some 5), none, false, .mov (.k (.d (.int .i64 0)))⟩])
 (.block 0
 (.loop
 (.seq
 (.seq
 (.reg false [0, 1, 5, 14] [⟨(some 11), none, false, .mov (.t 5)⟩,
 ⟨(some 12), none, false, .mov (.t 0)⟩,
 ⟨(some 13), none, false, .len false (.t 12)⟩,
 ⟨(some 14), none, false, .bin .lss (.t 11) (.t 13)⟩])
 (.cond (.t 14)
 .skip
 (.exit 0)))
 (.seq
 (.block 1
 (.seq
 (.reg true [0, 1, 5, 26] [⟨(some 17), none, false, .mov (.t 0)⟩,
 ⟨(some 18), none, false, .mov (.t 5)⟩,
 ⟨(some 19), none, false, .ia 6 (.t 17) (.t 18)⟩,
 ⟨(some 20), none, false, .ld (some 6) (.t 19)⟩,
 ⟨(some 21), none, false, .mov (.t 1)⟩,
 ⟨(some 22), none, false, .mov (.t 5)⟩,
 ⟨(some 23), none, false, .ia 6 (.t 21) (.t 22)⟩,
 ⟨(some 24), none, false, .ld (some 6) (.t 23)⟩,
 ⟨(some 25), none, false, .callP 71 [(.t 20), (.t 24)]⟩,
 ⟨(some 26), none, false, .un .not (.t 25)⟩])
 (.cond (.t 26)
 (.seq
 (.reg false [4] [⟨(some 4), none, false, .mov (.k (.d (.bool false)))⟩])
 .ret)
 .skip)))
 (.reg false [0, 1, 5] [⟨(some 15), none, false, .mov (.t 5)⟩,
 ⟨(some 16), none, false, .bin .add (.t 15) (.k (.d (.int .i64 1)))⟩,
 ⟨(some 5), none, false, .mov (.t 16)⟩]))))))
 (.seq
 (.reg false [4] [⟨(some 4), none, false, .mov (.k (.d (.bool true)))⟩])
 .ret))))
theorem c12 : (Go.Proofs.Try.f12).body.bind (comp prog.P (2, (Go.Proofs.Try.f12).ntmps) lv12) = some m12 := by kernel_rfl
theorem r12 : resOK prog.P (Go.Proofs.Try.f12).results.toList = true := by kernel_rfl

/-- laws.markAppealS -/
def lv13 : List (Nat × List Nat) := [(0, [0, 1]), (1, [0, 1, 5]), (2, [0, 1, 5, 9]), (3, [0, 1, 5]), (4, [0, 1, 5]), (5, [0, 1, 5]), (6, [0, 1, 5]), (7, [0, 1, 5]), (8, [0, 1, 5]), (9, [0, 1, 5]), (10, [0, 1, 5]), (11, [0, 1, 5]), (12, [0, 1, 5]), (13, [0, 1, 5]), (14, [0, 4])]
def m13 : MC :=
  (.seq
 (.reg false [0, 1] [⟨(some 4), none, false, .mov (.k (.d (.int .i64 0)))⟩])
 (.seq
 (.seq
 (.reg false [0, 1, 5] [⟨(some 5), none, false, .mov (.k (.d (.int .i64 0)))⟩])
 (.block 0
 (.loop
 (.seq
 (.seq
 (.reg false [0, 1, 5, 9] [⟨(some 6), none, false, .mov (.t 5)⟩,
 ⟨(some 7), none, false, .mov (.t 0)⟩,
 ⟨(some 8), none, false, .len false (.t 7)⟩,
 ⟨(some 9), none, false, .bin .lss (.t 6) (.t 8)⟩])
 (.cond (.t 9)
 .skip
 (.exit 0)))
 (.seq
 (.block 1
 (.seq
 (.reg false [0, 1, 5] [⟨(some 12), none, false, .mov (.t 0)⟩,
 ⟨(some 13), none, false, .mov (.t 5)⟩,
 ⟨(some 14), none, false, .mov (.t 1)⟩,
 ⟨(some 15), none, false, .ia 6 (.t 12) (.t 13)⟩,
 ⟨(some 16), none, false, .fa 0 0 (.t 15)⟩,
 ⟨none, none, true, .st 1 (.t 16) (.t 14)⟩])
 (.seq
 (.reg false [0, 1, 5] [⟨(some 17), none, false, .mov (.t 1)⟩,
 ⟨(some 18), none, false, .bin .add (.t 17) (.k (.d (.int .i64 1)))⟩,
 ⟨(some 1), none, false, .mov (.t 18)⟩])
 (.seq
 (.reg false [0, 1, 5] [⟨(some 19), none, false, .mov (.t 0)⟩,
 ⟨(some 20), none, false, .mov (.t 5)⟩,
 ⟨(some 21), none, false, .mov (.t 1)⟩,
 ⟨(some 22), none, false, .ia 6 (.t 19) (.t 20)⟩,
 ⟨(some 23), none, false, .fa 1 1 (.t 22)⟩,
 ⟨none, none, true, .st 1 (.t 23) (.t 21)⟩])
 (.seq
 (.reg false [0, 1, 5] [⟨(some 24), none, false, .mov (.t 1)⟩,
 ⟨(some 25), none, false, .bin .add (.t 24) (.k (.d (.int .i64 1)))⟩,
 ⟨(some 1), none, false, .mov (.t 25)⟩])
 (.seq
 (.reg false [0, 1, 5] [⟨(some 26), none, false, .mov (.t 0)⟩,
 ⟨(some 27), none, false, .mov (.t 5)⟩,
 ⟨(some 28), none, false, .mov (.t 1)⟩,
 ⟨(some 29), none, false, .ia 6 (.t 26) (.t 27)⟩,
 ⟨(some 30), none, false, .fa 2 2 (.t 29)⟩,
 ⟨none, none, true, .st 1 (.t 30) (.t 28)⟩])
 (.seq
 (.reg false [0, 1, 5] [⟨(some 31), none, false, .mov (.t 1)⟩,
 ⟨(some 32), none, false, .bin .add (.t 31) (.k (.d (.int .i64 1)))⟩,
 ⟨(some 1), none, false, .mov (.t 32)⟩])
 (.seq
 (.reg false [0, 1, 5] [⟨(some 33), none, false, .mov (.t 0)⟩,
 ⟨(some 34), none, false, .mov (.t 5)⟩,
 ⟨(some 35), none, false, .ia 6 (.t 33) (.t 34)⟩,
 ⟨(some 36), none, false, .fa 3 3 (.t 35)⟩,
 ⟨(some 37), none, false, .ld none (.t 36)⟩,
 ⟨(some 38), none, false, .mov (.t 1)⟩,
 ⟨(some 39), none, true, .call 14 [(.t 37), (.t 38)]⟩,
 ⟨(some 1), none, false, .mov (.t 39)⟩])
 (.seq
 (.reg false [0, 1, 5] [⟨(some 40), none, false, .mov (.t 0)⟩,
 ⟨(some 41), none, false, .mov (.t 5)⟩,
 ⟨(some 42), none, false, .ia 6 (.t 40) (.t 41)⟩,
 ⟨(some 43), none, false, .fa 4 4 (.t 42)⟩,
 ⟨(some 44), none, false, .ld none (.t 43)⟩,
 ⟨(some 45), none, false, .mov (.t 1)⟩,
 ⟨(some 46), none, true, .call 14 [(.t 44), (.t 45)]⟩,
 ⟨(some 1), none, false, .mov (.t 46)⟩])
 (.seq
 (.reg false [0, 1, 5] [⟨(some 47), none, false, .mov (.t 0)⟩,
 ⟨(some 48), none, false, .mov (.t 5)⟩,
 ⟨(some 49), none, false, .mov (.t 1)⟩,
 ⟨(some 50), none, false, .ia 6 (.t 47) (.t 48)⟩,
 ⟨(some 51), none, false, .fa 5 5 (.t 50)⟩,
 ⟨none, none, true, .st 1 (.t 51) (.t 49)⟩])
 (.reg false [0, 1, 5] [⟨(some 52), none, false, .mov (.t 1)⟩,
 ⟨(some 53), none, false, .bin .add (.t 52) (.k (.d (.int .i64 1)))⟩,
 ⟨(some 1), none, false, .mov (.t 53)⟩])))))))))))
 (.reg false [0, 1, 5] [⟨(some 10), none, false, .mov (.t 5)⟩,
 ⟨(some 11), none, false, .bin .add (.t 10) (.k (.d (.int .i64 1)))⟩,
 ⟨(some 5), none, false, .mov (.t 11)⟩]))))))
 (.seq
 (.reg false [0, 4] [⟨(some 54), none, false, .mov (.t 1)⟩,
 ⟨(some 4), none, false, .mov (.t 54)⟩])
 .ret)))
theorem c13 : (Go.Proofs.Try.f13).body.bind (comp prog.P (1, (Go.Proofs.Try.f13).ntmps) lv13) = some m13 := by kernel_rfl
theorem r13 : resOK prog.P (Go.Proofs.Try.f13).results.toList = true := by kernel_rfl

/-- laws.markIntS -/
def lv14 : List (Nat × List Nat) := [(0, [0, 1]), (1, [0, 1, 5]), (2, [0, 1, 5, 9]), (3, [0, 1, 5]), (4, [0, 1, 5]), (5, [0, 1, 5]), (6, [0, 4])]
def m14 : MC :=
  (.seq
 (.reg false [0, 1] [⟨(some 4), none, false, .mov (.k (.d (.int .i64 0)))⟩])
 (.seq
 (.seq
 (.reg false [0, 1, 5] [⟨(some 5), none, false, .mov (.k (.d (.int .i64 0)))⟩])
 (.block 0
 (.loop
 (.seq
 (.seq
 (.reg false [0, 1, 5, 9] [⟨(some 6), none, false, .mov (.t 5)⟩,
 ⟨(some 7), none, false, .mov (.t 0)⟩,
 ⟨(some 8), none, false, .len false (.t 7)⟩,
 ⟨(some 9), none, false, .bin .lss (.t 6) (.t 8)⟩])
 (.cond (.t 9)
 .skip
 (.exit 0)))
 (.seq
 (.block 1
 (.seq
 (.reg false [0, 1, 5] [⟨(some 12), none, false, .mov (.t 0)⟩,
 ⟨(some 13), none, false, .mov (.t 5)⟩,
 ⟨(some 14), none, false, .mov (.t 1)⟩,
 ⟨(some 15), none, false, .ia 1 (.t 12) (.t 13)⟩,
 ⟨none, none, true, .st 1 (.t 15) (.t 14)⟩])
 (.reg false [0, 1, 5] [⟨(some 16), none, false, .mov (.t 1)⟩,
 ⟨(some 17), none, false, .bin .add (.t 16) (.k (.d (.int .i64 1)))⟩,
 ⟨(some 1), none, false, .mov (.t 17)⟩])))
 (.reg false [0, 1, 5] [⟨(some 10), none, false, .mov (.t 5)⟩,
 ⟨(some 11), none, false, .bin .add (.t 10) (.k (.d (.int .i64 1)))⟩,
 ⟨(some 5), none, false, .mov (.t 11)⟩]))))))
 (.seq
 (.reg false [0, 4] [⟨(some 18), none, false, .mov (.t 1)⟩,
 ⟨(some 4), none, false, .mov (.t 18)⟩])
 .ret)))
theorem c14 : (Go.Proofs.Try.f14).body.bind (comp prog.P (1, (Go.Proofs.Try.f14).ntmps) lv14) = some m14 := by kernel_rfl
theorem r14 : resOK prog.P (Go.Proofs.Try.f14).results.toList = true := by kernel_rfl

/-- laws.heldIntS -/
def lv15 : List (Nat × List Nat) := [(0, [0, 1]), (1, [0, 1, 5]), (2, [0, 1, 5, 9]), (3, [0, 1, 5]), (4, [0, 1, 5, 17]), (5, [4]), (6, [0, 1, 5]), (7, [4])]
def m15 : MC :=
  (.seq
 (.reg false [0, 1] [⟨(some 4), none, false, .mov (.k (.d (.int .i64 0)))⟩])
 (.seq
 (.seq
 (.reg false [0, 1, 5] [⟨(some 5), none, false, .mov (.k (.d (.int .i64 0)))⟩])
 (.block 0
 (.loop
 (.seq
 (.seq
 (.reg false [0, 1, 5, 9] [⟨(some 6), none, false, .mov (.t 5)⟩,
 ⟨(some 7), none, false, .mov (.t 0)⟩,
 ⟨(some 8), none, false, .len false (.t 7)⟩,
 ⟨(some 9), none, false, .bin .lss (.t 6) (.t 8)⟩])
 (.cond (.t 9)
 .skip
 (.exit 0)))
 (.seq
 (.block 1
 (.seq
 (.seq
 (.reg false [0, 1, 5, 17] [⟨(some 12), none, false, .mov (.t 0)⟩,
 ⟨(some 13), none, false, .mov (.t 5)⟩,
 ⟨(some 14), none, false, .ia 1 (.t 12) (.t 13)⟩,
 ⟨(some 15), none, false, .ld none (.t 14)⟩,
 ⟨(some 16), none, false, .mov (.t 1)⟩,
 ⟨(some 17), none, false, .bin .neq (.t 15) (.t 16)⟩])
 (.cond (.t 17)
 (.seq
 (.reg false [4] [⟨(some 4), none, false, .mov (.k (.d (.int .i64 (-1))))⟩])
 .ret)
 .skip))
 (.reg false [0, 1, 5] [⟨(some 18), none, false, .mov (.t 1)⟩,
 ⟨(some 19), none, false, .bin .add (.t 18) (.k (.d (.int .i64 1)))⟩,
 ⟨(some 1), none, false, .mov (.t 19)⟩])))
 (.reg false [0, 1, 5] [⟨(some 10), none, false, .mov (.t 5)⟩,
 ⟨(some 11), none, false, .bin .add (.t 10) (.k (.d (.int .i64 1)))⟩,
 ⟨(some 5), none, false, .mov (.t 11)⟩]))))))
 (.seq
 (.reg false [4] [⟨(some 20), none, false, .mov (.t 1)⟩,
 ⟨(some 4), none, false, .mov (.t 20)⟩])
 .ret)))
theorem c15 : (Go.Proofs.Try.f15).body.bind (comp prog.P (1, (Go.Proofs.Try.f15).ntmps) lv15) = some m15 := by kernel_rfl
theorem r15 : resOK prog.P (Go.Proofs.Try.f15).results.toList = true := by kernel_rfl

/-- laws.rBig -/
def lv16 : List (Nat × List Nat) := [(0, [0]), (1, [2])]
def m16 : MC :=
  (.seq
 (.reg false [0] [⟨(some 2), none, false, .mov (.k (.d (.bool false)))⟩])
 (.seq
 (.reg false [2] [⟨(some 3), none, false, .mov (.t 0)⟩,
 ⟨(some 4), none, false, .len false (.t 3)⟩,
 ⟨(some 5), none, false, .bin .gtr (.t 4) (.k (.d (.int .i64 65536)))⟩,
 ⟨(some 2), none, false, .mov (.t 5)⟩])
 .ret))
theorem c16 : (Go.Proofs.Try.f16).body.bind (comp prog.P (1, (Go.Proofs.Try.f16).ntmps) lv16) = some m16 := by kernel_rfl
theorem r16 : resOK prog.P (Go.Proofs.Try.f16).results.toList = true := by kernel_rfl

/-- laws.rInts -/
def lv27 : List (Nat × List Nat) := [(0, [0, 1]), (1, [0, 1, 10]), (2, [4]), (3, [0, 1, 5]), (4, [0, 1, 5, 14]), (5, [0, 1, 5]), (6, [0, 1, 5, 25]), (7, [4]), (8, [4])]
def m27 : MC :=
  (.seq
 (.reg false [0, 1] [⟨(some 4), none, false, .mov (.k (.d (.bool false)))⟩])
 (.seq
 (.seq
 (.reg false [0, 1, 10] [⟨(some 6), none, false, .mov (.t 0)⟩,
 ⟨(some 7), none, false, .len false (.t 6)⟩,
 ⟨(some 8), none, false, .mov (.t 1)⟩,
 ⟨(some 9), none, false, .len false (.t 8)⟩,
 ⟨(some 10), none, false, .bin .neq (.t 7) (.t 9)⟩])
 (.cond (.t 10)
 (.seq
 (.reg false [4] [⟨(some 4), none, false, .mov (.k (.d (.bool false)))⟩])
 .ret)
 .skip))
 (.seq
 (.seq
 (.reg false [0, 1, 5] [⟨(some 5), none, false, .mov (.k (.d (.int .i64 0)))⟩])
 (.block 0
 (.loop
 (.seq
 (.seq
 (.reg false [0, 1, 5, 14] [⟨(some 11), none, false, .mov (.t 5)⟩,
 ⟨(some 12), none, false, .mov (.t 0)⟩,
 ⟨(some 13), none, false, .len false (.t 12)⟩,
 ⟨(some 14), none, false, .bin .lss (.t 11) (.t 13)⟩])
 (.cond (.t 14)
 .skip
 (.exit 0)))
 (.seq
 (.block 1
 (.seq
 (.reg true [0, 1, 5, 25] [⟨(some 17), none, false, .mov (.t 0)⟩,
 ⟨(some 18), none, false, .mov (.t 5)⟩,
 ⟨(some 19), none, false, .ia 1 (.t 17) (.t 18)⟩,
 ⟨(some 20), none, false, .ld none (.t 19)⟩,
 ⟨(some 21), none, false, .mov (.t 1)⟩,
 ⟨(some 22), none, false, .mov (.t 5)⟩,
 ⟨(some 23), none, false, .ia 1 (.t 21) (.t 22)⟩,
 ⟨(some 24), none, false, .ld none (.t 23)⟩,
 ⟨(some 25), none, false, .bin .neq (.t 20) (.t 24)⟩])
 (.cond (.t 25)
 (.seq
 (.reg false [4] [⟨(some 4), none, false, .mov (.k (.d (.bool false)))⟩])
 .ret)
 .skip)))
 (.reg false [0, 1, 5] [⟨(some 15), none, false, .mov (.t 5)⟩,
 ⟨(some 16), none, false, .bin .add (.t 15) (.k (.d (.int .i64 1)))⟩,
 ⟨(some 5), none, false, .mov (.t 16)⟩]))))))
 (.seq
 (.reg false [4] [⟨(some 4), none, false, .mov (.k (.d (.bool true)))⟩])
 .ret))))
theorem c27 : (Go.Proofs.Try.f27).body.bind (comp prog.P (2, (Go.Proofs.Try.f27).ntmps) lv27) = some m27 := by kernel_rfl
theorem r27 : resOK prog.P (Go.Proofs.Try.f27).results.toList = true := by kernel_rfl

/-- laws.rHas -/
def lv28 : List (Nat × List Nat) := [(0, [0, 1]), (1, [0, 1, 5]), (2, [0, 1, 5, 9]), (3, [0, 1, 5]), (4, [0, 1, 5, 17]), (5, [4]), (6, [4])]
def m28 : MC :=
  (.seq
 (.reg false [0, 1] [⟨(some 4), none, false, .mov (.k (.d (.bool false)))⟩])
 (.seq
 (.seq
 (.reg false [0, 1, 5] [⟨(some 5), none, false, .mov (.k (.d (.int .i64 0)))⟩])
 (.block 0
 (.loop
 (.seq
 (.seq
 (.reg false [0, 1, 5, 9] [⟨(some 6), none, false, .mov (.t 5)⟩,
 ⟨(some 7), none, false, .mov (.t 0)⟩,
 ⟨(some 8), none, false, .len false (.t 7)⟩,
 ⟨(some 9), none, false, .bin .lss (.t 6) (.t 8)⟩])
 (.cond (.t 9)
 .skip
 (.exit 0)))
 (.seq
 (.block 1
 (.seq
 (.reg false [0, 1, 5, 17] [⟨(some 12), none, false, .mov (.t 0)⟩,
 ⟨(some 13), none, false, .mov (.t 5)⟩,
 ⟨(some 14), none, false, .ia 1 (.t 12) (.t 13)⟩,
 ⟨(some 15), none, false, .ld none (.t 14)⟩,
 ⟨(some 16), none, false, .mov (.t 1)⟩,
 ⟨(some 17), none, false, .bin .eql (.t 15) (.t 16)⟩])
 (.cond (.t 17)
 (.seq
 (.reg false [4] [⟨(some 4), none, false, .mov (.k (.d (.bool true)))⟩])
 .ret)
 .skip)))
 (.reg false [0, 1, 5] [⟨(some 10), none, false, .mov (.t 5)⟩,
 ⟨(some 11), none, false, .bin .add (.t 10) (.k (.d (.int .i64 1)))⟩,
 ⟨(some 5), none, false, .mov (.t 11)⟩]))))))
 (.seq
 (.reg false [4] [⟨(some 4), none, false, .mov (.k (.d (.bool false)))⟩])
 .ret)))
theorem c28 : (Go.Proofs.Try.f28).body.bind (comp prog.P (2, (Go.Proofs.Try.f28).ntmps) lv28) = some m28 := by kernel_rfl
theorem r28 : resOK prog.P (Go.Proofs.Try.f28).results.toList = true := by kernel_rfl

/-- spec.DrawWaitFor -/
def lv32 : List (Nat × List Nat) := [(0, [0]), (1, [4]), (2, [4, 5]), (3, [2, 3])]
def m32 : MC :=
  (.seq
 (.reg false [0] [⟨(some 2), none, false, .mov (.k .nil)⟩,
 ⟨(some 3), none, false, .mov (.k (.d (.int .i64 0)))⟩])
 (.seq
 (.reg false [4] [⟨(some 6), none, false, .mov (.t 0)⟩,
 ⟨(some 7), none, true, .bld (.cons (.sl true 1 .nil) (.cons (.int .i64 0) (.cons (.int .u64 0) .nil))) [(0, (.t 6))]⟩,
 ⟨(some 8), none, true, .box (.t 7)⟩,
 ⟨(some 4), none, false, .mov (.t 8)⟩])
 (.seq
 (.reg false [4, 5] [⟨(some 9), none, false, .mov (.t 4)⟩,
 ⟨(some 10), none, true, .call 84 [(.t 9)]⟩,
 ⟨(some 5), none, false, .mov (.t 10)⟩])
 (.seq
 (.reg false [2, 3] [⟨(some 11), none, false, .mov (.t 5)⟩,
 ⟨(some 12), none, false, .mov (.t 4)⟩,
 ⟨(some 13), none, true, .bs 1 7 (.int .i64 0) [(0, (.k (.d (.int .i64 1)))), (1, (.k (.d (.int .i64 2)))), (2, (.k (.d (.int .i64 3)))), (3, (.k (.d (.int .i64 4)))), (4, (.k (.d (.int .i64 50)))), (5, (.k (.d (.int .i64 0)))), (6, (.k (.d (.int .i64 51))))]⟩,
 ⟨(some 14), none, false, .mov (.t 4)⟩,
 ⟨(some 15), none, true, .call 86 [(.t 14), (.k (.d (.int .i64 24)))]⟩,
 ⟨(some 16), none, false, .bin .quo (.t 15) (.k (.d (.int .i64 11)))⟩,
 ⟨(some 17), none, false, .bin .add (.k (.d (.int .i64 5))) (.t 16)⟩,
 ⟨(some 18), none, true, .cut 1 (.t 13) (.t 17)⟩,
 ⟨(some 19), none, true, .call 85 [(.t 12), (.t 18)]⟩,
 ⟨(some 2), none, false, .mov (.t 11)⟩,
 ⟨(some 3), none, false, .mov (.t 19)⟩])
 .ret))))
theorem c32 : (Go.Proofs.Try.f32).body.bind (comp prog.P (1, (Go.Proofs.Try.f32).ntmps) lv32) = some m32 := by kernel_rfl
theorem r32 : resOK prog.P (Go.Proofs.Try.f32).results.toList = true := by kernel_rfl

/-- impl.WaitFor -/
def lv33 : List (Nat × List Nat) := [(0, [0, 1]), (1, [0, 1, 19]), (2, [4, 5]), (3, [0, 1, 6]), (4, [1, 6, 20, 21, 22]), (5, [1, 6, 20, 21, 22, 23]), (6, [1, 6, 8, 20, 21, 22]), (7, [1, 6, 8, 20, 21, 22, 28]), (8, [1, 6, 20, 21, 22]), (9, [1, 6, 20, 21, 22]), (10, [6]), (11, [6, 9]), (12, [9, 36, 37, 38]), (13, [9, 36, 37, 38, 39]), (14, [9, 11, 36, 37, 38]), (15, [9, 36, 37, 38]), (16, [9, 36, 37, 38]), (17, [4, 5])]
def m33 : MC :=
  (.seq
 (.reg false [0, 1] [⟨(some 4), none, false, .mov (.k .nil)⟩,
 ⟨(some 5), none, false, .mov (.k (.d (.bool false)))⟩])
 (.seq
 (.seq
 (.reg false [0, 1, 19] [⟨(some 12), none, false, .mov (.t 0)⟩,
 ⟨(some 13), none, true, .call 51 [(.t 12)]⟩,
 ⟨(some 14), none, false, .un .not (.t 13)⟩,
 ⟨(some 15), none, false, .mov (.t 14)⟩,
 ⟨(some 16), (some (15, false)), false, .mov (.t 1)⟩,
 ⟨(some 17), (some (15, false)), true, .call 87 [(.t 16)]⟩,
 ⟨(some 18), (some (15, false)), false, .un .not (.t 17)⟩,
 ⟨(some 19), none, false, .pick (.t 15) (.k (.d (.bool true))) (.t 18)⟩])
 (.cond (.t 19)
 (.seq
 (.reg false [4, 5] [⟨(some 4), none, false, .mov (.k .nil)⟩,
 ⟨(some 5), none, false, .mov (.k (.d (.bool false)))⟩])
 .ret)
 .skip))
 (.seq
 (.reg false [0, 1, 6] [⟨(some 6), none, false, .mov (.k .nil)⟩])
 (.seq
 (.seq
 (.reg false [1, 6, 20, 21, 22] [⟨(some 20), none, false, .mov (.t 0)⟩,
 ⟨(some 21), none, false, .len false (.t 20)⟩,
 ⟨(some 22), none, false, .mov (.k (.d (.int .i64 0)))⟩])
 (.block 0
 (.loop
 (.seq
 (.reg false [1, 6, 20, 21, 22, 23] [⟨(some 23), none, false, .bin .lss (.t 22) (.t 21)⟩])
 (.seq
 (.cond (.t 23)
 .skip
 (.exit 0))
 (.seq
 (.block 1
 (.seq
 (.reg false [1, 6, 8, 20, 21, 22] [⟨(some 24), none, false, .ia 6 (.t 20) (.t 22)⟩,
 ⟨(some 25), none, false, .ld (some 6) (.t 24)⟩,
 ⟨(some 8), none, true, .alloc (.st (.cons (.int .i64 0) (.cons (.int .i64 0) (.cons (.int .i64 0) (.cons (.sl true 1 .nil) (.cons (.sl true 1 .nil) (.cons (.int .i64 0) .nil)))))))⟩,
 ⟨none, none, true, .st 6 (.t 8) (.t 25)⟩])
 (.seq
 (.reg false [1, 6, 8, 20, 21, 22, 28] [⟨(some 26), none, false, .ld (some 6) (.t 8)⟩,
 ⟨(some 27), none, false, .mov (.t 1)⟩,
 ⟨(some 28), none, true, .call 88 [(.t 26), (.t 27)]⟩])
 (.cond (.t 28)
 (.reg false [1, 6, 20, 21, 22] [⟨(some 29), none, false, .mov (.t 6)⟩,
 ⟨(some 30), none, false, .ld (some 6) (.t 8)⟩,
 ⟨(some 31), none, true, .bs 6 1 (.st (.cons (.int .i64 0) (.cons (.int .i64 0) (.cons (.int .i64 0) (.cons (.sl true 1 .nil) (.cons (.sl true 1 .nil) (.cons (.int .i64 0) .nil))))))) [(0, (.t 30))]⟩,
 ⟨(some 32), none, true, .app 6 80 (.t 29) (.t 31)⟩,
 ⟨(some 6), none, false, .mov (.t 32)⟩])
 .skip))))
 (.reg false [1, 6, 20, 21, 22] [⟨(some 33), none, false, .bin .add (.t 22) (.k (.d (.int .i64 1)))⟩,
 ⟨(some 22), none, false, .mov (.t 33)⟩])))))))
 (.seq
 (.reg false [6] [⟨(some 34), none, false, .mov (.t 6)⟩,
 ⟨(some 35), none, true, .call 89 [(.t 34), (.k (.d (.clo 90 .nil)))]⟩])
 (.seq
 (.reg false [6, 9] [⟨(some 9), none, false, .mov (.k .nil)⟩])
 (.seq
 (.seq
 (.reg false [9, 36, 37, 38] [⟨(some 36), none, false, .mov (.t 6)⟩,
 ⟨(some 37), none, false, .len false (.t 36)⟩,
 ⟨(some 38), none, false, .mov (.k (.d (.int .i64 0)))⟩])
 (.block 2
 (.loop
 (.seq
 (.reg false [9, 36, 37, 38, 39] [⟨(some 39), none, false, .bin .lss (.t 38) (.t 37)⟩])
 (.seq
 (.cond (.t 39)
 .skip
 (.exit 2))
 (.seq
 (.block 3
 (.seq
 (.reg false [9, 11, 36, 37, 38] [⟨(some 40), none, false, .ia 6 (.t 36) (.t 38)⟩,
 ⟨(some 41), none, false, .ld (some 6) (.t 40)⟩,
 ⟨(some 11), none, true, .alloc (.st (.cons (.int .i64 0) (.cons (.int .i64 0) (.cons (.int .i64 0) (.cons (.sl true 1 .nil) (.cons (.sl true 1 .nil) (.cons (.int .i64 0) .nil)))))))⟩,
 ⟨none, none, true, .st 6 (.t 11) (.t 41)⟩])
 (.reg false [9, 36, 37, 38] [⟨(some 42), none, false, .mov (.t 9)⟩,
 ⟨(some 43), none, false, .fa 0 0 (.t 11)⟩,
 ⟨(some 44), none, false, .ld none (.t 43)⟩,
 ⟨(some 45), none, true, .bs 1 1 (.int .i64 0) [(0, (.t 44))]⟩,
 ⟨(some 46), none, true, .app 1 8 (.t 42) (.t 45)⟩,
 ⟨(some 9), none, false, .mov (.t 46)⟩])))
 (.reg false [9, 36, 37, 38] [⟨(some 47), none, false, .bin .add (.t 38) (.k (.d (.int .i64 1)))⟩,
 ⟨(some 38), none, false, .mov (.t 47)⟩])))))))
 (.seq
 (.reg false [4, 5] [⟨(some 48), none, false, .mov (.t 9)⟩,
 ⟨(some 4), none, false, .mov (.t 48)⟩,
 ⟨(some 5), none, false, .mov (.k (.d (.bool true)))⟩])
 .ret))))))))
theorem c33 : (Go.Proofs.Try.f33).body.bind (comp prog.P (2, (Go.Proofs.Try.f33).ntmps) lv33) = some m33 := by kernel_rfl
theorem r33 : resOK prog.P (Go.Proofs.Try.f33).results.toList = true := by kernel_rfl

/-- spec.DrawLapseAppeals -/
def lv35 : List (Nat × List Nat) := [(0, [0]), (1, [4]), (2, [4, 5]), (3, [2, 3])]
def m35 : MC :=
  (.seq
 (.reg false [0] [⟨(some 2), none, false, .mov (.k .nil)⟩,
 ⟨(some 3), none, false, .mov (.k (.d (.int .i64 0)))⟩])
 (.seq
 (.reg false [4] [⟨(some 6), none, false, .mov (.t 0)⟩,
 ⟨(some 7), none, true, .bld (.cons (.sl true 1 .nil) (.cons (.int .i64 0) (.cons (.int .u64 0) .nil))) [(0, (.t 6))]⟩,
 ⟨(some 8), none, true, .box (.t 7)⟩,
 ⟨(some 4), none, false, .mov (.t 8)⟩])
 (.seq
 (.reg false [4, 5] [⟨(some 9), none, false, .mov (.t 4)⟩,
 ⟨(some 10), none, true, .call 84 [(.t 9)]⟩,
 ⟨(some 5), none, false, .mov (.t 10)⟩])
 (.seq
 (.reg false [2, 3] [⟨(some 11), none, false, .mov (.t 5)⟩,
 ⟨(some 12), none, false, .mov (.t 4)⟩,
 ⟨(some 13), none, true, .call 93 [(.t 12)]⟩,
 ⟨(some 2), none, false, .mov (.t 11)⟩,
 ⟨(some 3), none, false, .mov (.t 13)⟩])
 .ret))))
theorem c35 : (Go.Proofs.Try.f35).body.bind (comp prog.P (1, (Go.Proofs.Try.f35).ntmps) lv35) = some m35 := by kernel_rfl
theorem r35 : resOK prog.P (Go.Proofs.Try.f35).results.toList = true := by kernel_rfl

/-- impl.LapseAppeals -/
def lv36 : List (Nat × List Nat) := [(0, [0, 1]), (1, [0, 1, 18]), (2, [4, 5, 6]), (3, [1, 7]), (4, [1, 7, 8]), (5, [1, 7, 8, 21, 22, 23]), (6, [1, 7, 8, 21, 22, 23, 24]), (7, [1, 7, 8, 9, 10, 21, 22, 23]), (8, [1, 7, 8, 9, 10, 21, 22, 23, 37]), (9, [1, 7, 8, 10, 21, 22, 23]), (10, [1, 7, 8, 21, 22, 23]), (11, [1, 7, 8, 21, 22, 23]), (12, [4, 5, 6])]
def m36 : MC :=
  (.seq
 (.reg false [0, 1] [⟨(some 4), none, false, .mov (.k .nil)⟩,
 ⟨(some 5), none, false, .mov (.k .nil)⟩,
 ⟨(some 6), none, false, .mov (.k (.d (.bool false)))⟩])
 (.seq
 (.seq
 (.reg false [0, 1, 18] [⟨(some 11), none, false, .mov (.t 0)⟩,
 ⟨(some 12), none, true, .call 51 [(.t 11)]⟩,
 ⟨(some 13), none, false, .un .not (.t 12)⟩,
 ⟨(some 14), none, false, .mov (.t 13)⟩,
 ⟨(some 15), (some (14, false)), false, .mov (.t 1)⟩,
 ⟨(some 16), (some (14, false)), true, .call 94 [(.t 15)]⟩,
 ⟨(some 17), (some (14, false)), false, .un .not (.t 16)⟩,
 ⟨(some 18), none, false, .pick (.t 14) (.k (.d (.bool true))) (.t 17)⟩])
 (.cond (.t 18)
 (.seq
 (.reg false [4, 5, 6] [⟨(some 4), none, false, .mov (.k .nil)⟩,
 ⟨(some 5), none, false, .mov (.k .nil)⟩,
 ⟨(some 6), none, false, .mov (.k (.d (.bool false)))⟩])
 .ret)
 .skip))
 (.seq
 (.reg false [1, 7] [⟨(some 19), none, false, .mov (.t 0)⟩,
 ⟨(some 20), none, true, .call 95 [(.t 19)]⟩,
 ⟨(some 7), none, false, .mov (.t 20)⟩])
 (.seq
 (.reg false [1, 7, 8] [⟨(some 8), none, false, .mov (.k .nil)⟩])
 (.seq
 (.seq
 (.reg false [1, 7, 8, 21, 22, 23] [⟨(some 21), none, false, .mov (.t 7)⟩,
 ⟨(some 22), none, false, .len false (.t 21)⟩,
 ⟨(some 23), none, false, .mov (.k (.d (.int .i64 0)))⟩])
 (.block 0
 (.loop
 (.seq
 (.reg false [1, 7, 8, 21, 22, 23, 24] [⟨(some 24), none, false, .bin .lss (.t 23) (.t 22)⟩])
 (.seq
 (.cond (.t 24)
 .skip
 (.exit 0))
 (.seq
 (.block 1
 (.seq
 (.reg false [1, 7, 8, 9, 10, 21, 22, 23] [⟨(some 25), none, false, .mov (.t 23)⟩,
 ⟨(some 26), none, false, .ia 6 (.t 21) (.t 23)⟩,
 ⟨(some 27), none, false, .ld (some 6) (.t 26)⟩,
 ⟨(some 10), none, true, .alloc (.st (.cons (.int .i64 0) (.cons (.int .i64 0) (.cons (.int .i64 0) (.cons (.sl true 1 .nil) (.cons (.sl true 1 .nil) (.cons (.int .i64 0) .nil)))))))⟩,
 ⟨(some 9), none, false, .mov (.t 25)⟩,
 ⟨none, none, true, .st 6 (.t 10) (.t 27)⟩])
 (.seq
 (.reg false [1, 7, 8, 9, 10, 21, 22, 23, 37] [⟨(some 28), none, false, .fa 5 5 (.t 10)⟩,
 ⟨(some 29), none, false, .ld none (.t 28)⟩,
 ⟨(some 30), none, false, .bin .eql (.t 29) (.k (.d (.int .i64 0)))⟩,
 ⟨(some 31), none, false, .mov (.t 30)⟩,
 ⟨(some 32), (some (31, true)), false, .mov (.t 1)⟩,
 ⟨(some 33), (some (31, true)), false, .fa 2 2 (.t 10)⟩,
 ⟨(some 34), (some (31, true)), false, .ld none (.t 33)⟩,
 ⟨(some 35), (some (31, true)), false, .bin .sub (.t 32) (.t 34)⟩,
 ⟨(some 36), (some (31, true)), false, .bin .gtr (.t 35) (.k (.d (.int .i64 60)))⟩,
 ⟨(some 37), none, false, .pick (.t 31) (.t 36) (.k (.d (.bool false)))⟩])
 (.cond (.t 37)
 (.seq
 (.reg false [1, 7, 8, 10, 21, 22, 23] [⟨(some 38), none, false, .mov (.t 7)⟩,
 ⟨(some 39), none, false, .mov (.t 9)⟩,
 ⟨(some 40), none, false, .ia 6 (.t 38) (.t 39)⟩,
 ⟨(some 41), none, false, .fa 5 5 (.t 40)⟩,
 ⟨none, none, true, .st 1 (.t 41) (.k (.d (.int .i64 4)))⟩])
 (.reg false [1, 7, 8, 21, 22, 23] [⟨(some 42), none, false, .mov (.t 8)⟩,
 ⟨(some 43), none, false, .fa 0 0 (.t 10)⟩,
 ⟨(some 44), none, false, .ld none (.t 43)⟩,
 ⟨(some 45), none, true, .bs 1 1 (.int .i64 0) [(0, (.t 44))]⟩,
 ⟨(some 46), none, true, .app 1 8 (.t 42) (.t 45)⟩,
 ⟨(some 8), none, false, .mov (.t 46)⟩]))
 .skip))))
 (.reg false [1, 7, 8, 21, 22, 23] [⟨(some 47), none, false, .bin .add (.t 23) (.k (.d (.int .i64 1)))⟩,
 ⟨(some 23), none, false, .mov (.t 47)⟩])))))))
 (.seq
 (.reg false [4, 5, 6] [⟨(some 48), none, false, .mov (.t 7)⟩,
 ⟨(some 49), none, false, .mov (.t 8)⟩,
 ⟨(some 4), none, false, .mov (.t 48)⟩,
 ⟨(some 5), none, false, .mov (.t 49)⟩,
 ⟨(some 6), none, false, .mov (.k (.d (.bool true)))⟩])
 .ret))))))
theorem c36 : (Go.Proofs.Try.f36).body.bind (comp prog.P (2, (Go.Proofs.Try.f36).ntmps) lv36) = some m36 := by kernel_rfl
theorem r36 : resOK prog.P (Go.Proofs.Try.f36).results.toList = true := by kernel_rfl

/-- spec.LapseAppeals -/
def lv37 : List (Nat × List Nat) := [(0, [0, 1]), (1, [0, 1, 7]), (2, [0, 1, 7, 19]), (3, [4, 5, 6]), (4, [1, 7, 8]), (5, [1, 7, 8, 9]), (6, [1, 7, 8, 9, 27]), (7, [1, 7, 8, 9]), (8, [1, 7, 8, 9, 10]), (9, [1, 7, 8, 9, 10, 43]), (10, [1, 7, 8, 9, 10]), (11, [1, 7, 8, 9, 10]), (12, [1, 7, 8, 9]), (13, [4, 5, 6])]
def m37 : MC :=
  (.seq
 (.reg false [0, 1] [⟨(some 4), none, false, .mov (.k .nil)⟩,
 ⟨(some 5), none, false, .mov (.k .nil)⟩,
 ⟨(some 6), none, false, .mov (.k (.d (.bool false)))⟩])
 (.seq
 (.reg false [0, 1, 7] [⟨(some 11), none, true, .bs 1 0 (.int .i64 0) []⟩,
 ⟨(some 7), none, false, .mov (.t 11)⟩])
 (.seq
 (.seq
 (.reg false [0, 1, 7, 19] [⟨(some 12), none, false, .mov (.t 0)⟩,
 ⟨(some 13), none, true, .call 63 [(.t 12)]⟩,
 ⟨(some 14), none, false, .un .not (.t 13)⟩,
 ⟨(some 15), none, false, .mov (.t 14)⟩,
 ⟨(some 16), (some (15, false)), false, .mov (.t 1)⟩,
 ⟨(some 17), (some (15, false)), true, .call 96 [(.t 16)]⟩,
 ⟨(some 18), (some (15, false)), false, .un .not (.t 17)⟩,
 ⟨(some 19), none, false, .pick (.t 15) (.k (.d (.bool true))) (.t 18)⟩])
 (.cond (.t 19)
 (.seq
 (.reg false [4, 5, 6] [⟨(some 20), none, true, .bs 6 0 (.st (.cons (.int .i64 0) (.cons (.int .i64 0) (.cons (.int .i64 0) (.cons (.sl true 1 .nil) (.cons (.sl true 1 .nil) (.cons (.int .i64 0) .nil))))))) []⟩,
 ⟨(some 21), none, false, .mov (.t 7)⟩,
 ⟨(some 4), none, false, .mov (.t 20)⟩,
 ⟨(some 5), none, false, .mov (.t 21)⟩,
 ⟨(some 6), none, false, .mov (.k (.d (.bool false)))⟩])
 .ret)
 .skip))
 (.seq
 (.reg false [1, 7, 8] [⟨(some 22), none, false, .mov (.t 0)⟩,
 ⟨(some 23), none, true, .call 97 [(.t 22)]⟩,
 ⟨(some 8), none, false, .mov (.t 23)⟩])
 (.seq
 (.seq
 (.reg false [1, 7, 8, 9] [⟨(some 9), none, false, .mov (.k (.d (.int .i64 0)))⟩])
 (.block 0
 (.loop
 (.seq
 (.seq
 (.reg false [1, 7, 8, 9, 27] [⟨(some 24), none, false, .mov (.t 9)⟩,
 ⟨(some 25), none, false, .mov (.t 8)⟩,
 ⟨(some 26), none, false, .len false (.t 25)⟩,
 ⟨(some 27), none, false, .bin .lss (.t 24) (.t 26)⟩])
 (.cond (.t 27)
 .skip
 (.exit 0)))
 (.seq
 (.block 1
 (.seq
 (.reg false [1, 7, 8, 9, 10] [⟨(some 30), none, false, .mov (.t 8)⟩,
 ⟨(some 31), none, false, .mov (.t 9)⟩,
 ⟨(some 32), none, false, .ia 6 (.t 30) (.t 31)⟩,
 ⟨(some 33), none, false, .ld (some 6) (.t 32)⟩,
 ⟨(some 10), none, true, .alloc (.st (.cons (.int .i64 0) (.cons (.int .i64 0) (.cons (.int .i64 0) (.cons (.sl true 1 .nil) (.cons (.sl true 1 .nil) (.cons (.int .i64 0) .nil)))))))⟩,
 ⟨none, none, true, .st 6 (.t 10) (.t 33)⟩])
 (.seq
 (.reg false [1, 7, 8, 9, 10, 43] [⟨(some 34), none, false, .fa 5 5 (.t 10)⟩,
 ⟨(some 35), none, false, .ld none (.t 34)⟩,
 ⟨(some 36), none, false, .bin .eql (.t 35) (.k (.d (.int .i64 0)))⟩,
 ⟨(some 37), none, false, .mov (.t 36)⟩,
 ⟨(some 38), (some (37, true)), false, .mov (.t 1)⟩,
 ⟨(some 39), (some (37, true)), false, .fa 2 2 (.t 10)⟩,
 ⟨(some 40), (some (37, true)), false, .ld none (.t 39)⟩,
 ⟨(some 41), (some (37, true)), false, .bin .sub (.t 38) (.t 40)⟩,
 ⟨(some 42), (some (37, true)), false, .bin .gtr (.t 41) (.k (.d (.int .i64 60)))⟩,
 ⟨(some 43), none, false, .pick (.t 37) (.t 42) (.k (.d (.bool false)))⟩])
 (.cond (.t 43)
 (.seq
 (.reg false [1, 7, 8, 9, 10] [⟨(some 44), none, false, .fa 5 5 (.t 10)⟩,
 ⟨none, none, true, .st 1 (.t 44) (.k (.d (.int .i64 4)))⟩])
 (.seq
 (.reg false [1, 7, 8, 9, 10] [⟨(some 45), none, false, .mov (.t 8)⟩,
 ⟨(some 46), none, false, .mov (.t 9)⟩,
 ⟨(some 47), none, false, .ld (some 6) (.t 10)⟩,
 ⟨(some 48), none, false, .ia 6 (.t 45) (.t 46)⟩,
 ⟨none, none, true, .st 6 (.t 48) (.t 47)⟩])
 (.reg false [1, 7, 8, 9] [⟨(some 49), none, false, .mov (.t 7)⟩,
 ⟨(some 50), none, false, .fa 0 0 (.t 10)⟩,
 ⟨(some 51), none, false, .ld none (.t 50)⟩,
 ⟨(some 52), none, true, .bs 1 1 (.int .i64 0) [(0, (.t 51))]⟩,
 ⟨(some 53), none, true, .app 1 8 (.t 49) (.t 52)⟩,
 ⟨(some 7), none, false, .mov (.t 53)⟩])))
 .skip))))
 (.reg false [1, 7, 8, 9] [⟨(some 28), none, false, .mov (.t 9)⟩,
 ⟨(some 29), none, false, .bin .add (.t 28) (.k (.d (.int .i64 1)))⟩,
 ⟨(some 9), none, false, .mov (.t 29)⟩]))))))
 (.seq
 (.reg false [4, 5, 6] [⟨(some 54), none, false, .mov (.t 8)⟩,
 ⟨(some 55), none, false, .mov (.t 7)⟩,
 ⟨(some 4), none, false, .mov (.t 54)⟩,
 ⟨(some 5), none, false, .mov (.t 55)⟩,
 ⟨(some 6), none, false, .mov (.k (.d (.bool true)))⟩])
 .ret))))))
theorem c37 : (Go.Proofs.Try.f37).body.bind (comp prog.P (2, (Go.Proofs.Try.f37).ntmps) lv37) = some m37 := by kernel_rfl
theorem r37 : resOK prog.P (Go.Proofs.Try.f37).results.toList = true := by kernel_rfl

end Go.Pe.Try
