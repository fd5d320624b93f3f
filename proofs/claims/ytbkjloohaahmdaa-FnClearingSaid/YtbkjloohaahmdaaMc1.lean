/-
The compact code of the functions that the law reaches, printed by gen.py, each with the proof that the machine's code is compiled to it.
-/
import Derived.Test.YtbkjloohaahmdaaPeC
import Derived.Test.YtbkjloohaahmdaaProg
import Derived.KernelRfl
set_option maxRecDepth 100000
namespace Go.Pe.Try
open Go.Pe

/-- the program; of its start-up memory nothing is asked. -/
noncomputable def prog : PG := ⟨Go.Proofs.Try.prog, fun _ => True, fun _ _ _ _ h => h⟩

theorem sz45 : sizeOfT prog.P 45 = some 5 := by kernel_rfl

/-- laws.FnClearing -/
def lv4 : List (Nat × List Nat) := [(0, [0]), (1, [0, 41]), (2, [2]), (3, [0, 3, 4]), (4, [0, 3, 4, 5, 6, 7]), (5, [0, 3, 4, 5, 6, 7, 8, 9, 10]), (6, [0, 3, 4, 6, 7, 73]), (7, [2]), (8, [0, 6, 7, 11, 12]), (9, [0, 6, 7, 11, 12, 13]), (10, [0, 6, 7, 11, 12, 13, 86]), (11, [0, 6, 7, 11, 12, 13]), (12, [0, 6, 7, 11, 12, 13, 98]), (13, [2]), (14, [0, 14, 15]), (15, [0, 14, 15, 16, 17]), (16, [0, 14, 15, 16, 17, 18, 19]), (17, [0, 14, 15, 16, 17, 123]), (18, [2]), (19, [0, 15, 16, 17, 20, 21]), (20, [0, 15, 16, 17, 20, 21, 22]), (21, [0, 15, 16, 20, 21, 22, 132]), (22, [0, 15, 16, 20, 22, 144]), (23, [2]), (24, [0, 16, 20, 22, 23]), (25, [0, 16, 20, 22, 24]), (26, [0, 182]), (27, [2]), (28, [0, 25, 26]), (29, [0, 25, 26, 27, 28]), (30, [0, 26, 27, 28, 29, 30]), (31, [0, 26, 27, 208]), (32, [2]), (33, [0, 26, 27, 31]), (34, [0, 26, 27, 31, 212]), (35, [0, 26, 27, 31]), (36, [0, 26, 27, 31, 221]), (37, [2]), (38, [32, 33]), (39, [32, 33, 34, 35, 36]), (40, [34, 35, 36, 37, 38, 39]), (41, [2])]
def m4 : MC :=
  (.seq
 (.reg false [0] [⟨(some 2), none, false, .mov (.k (.d (.bool false)))⟩])
 (.seq
 (.seq
 (.reg false [0, 41] [⟨(some 40), none, false, .mov (.t 0)⟩,
 ⟨(some 41), none, true, .call 16 [(.t 40)]⟩])
 (.cond (.t 41)
 (.seq
 (.reg false [2] [⟨(some 2), none, false, .mov (.k (.d (.bool true)))⟩])
 .ret)
 .skip))
 (.seq
 (.reg false [0, 3, 4] [⟨(some 43), none, false, .mov (.t 0)⟩,
 ⟨(some 44), none, true, .call 17 [(.t 43)]⟩,
 ⟨(some 42), none, false, .mov (.t 44)⟩,
 ⟨(some 45), none, false, .ext (.t 42) 0⟩,
 ⟨(some 46), none, false, .ext (.t 42) 1⟩,
 ⟨(some 3), none, false, .mov (.t 45)⟩,
 ⟨(some 4), none, false, .mov (.t 46)⟩])
 (.seq
 (.reg false [0, 3, 4, 5, 6, 7] [⟨(some 48), none, false, .mov (.t 3)⟩,
 ⟨(some 49), none, false, .mov (.t 4)⟩,
 ⟨(some 50), none, true, .call 18 [(.t 48), (.t 49)]⟩,
 ⟨(some 47), none, false, .mov (.t 50)⟩,
 ⟨(some 51), none, false, .ext (.t 47) 0⟩,
 ⟨(some 52), none, false, .ext (.t 47) 1⟩,
 ⟨(some 53), none, false, .ext (.t 47) 2⟩,
 ⟨(some 5), none, false, .mov (.t 51)⟩,
 ⟨(some 6), none, false, .mov (.t 52)⟩,
 ⟨(some 7), none, false, .mov (.t 53)⟩])
 (.seq
 (.seq
 (.reg false [0, 3, 4, 5, 6, 7, 8, 9, 10] [⟨(some 55), none, false, .mov (.t 3)⟩,
 ⟨(some 56), none, false, .mov (.t 4)⟩,
 ⟨(some 57), none, true, .call 19 [(.t 55), (.t 56)]⟩,
 ⟨(some 54), none, false, .mov (.t 57)⟩,
 ⟨(some 58), none, false, .ext (.t 54) 0⟩,
 ⟨(some 59), none, false, .ext (.t 54) 1⟩,
 ⟨(some 60), none, false, .ext (.t 54) 2⟩,
 ⟨(some 8), none, false, .mov (.t 58)⟩,
 ⟨(some 9), none, false, .mov (.t 59)⟩,
 ⟨(some 10), none, false, .mov (.t 60)⟩])
 (.seq
 (.reg false [0, 3, 4, 6, 7, 73] [⟨(some 61), none, false, .mov (.t 5)⟩,
 ⟨(some 62), none, false, .mov (.t 8)⟩,
 ⟨(some 63), none, false, .bin .neq (.t 61) (.t 62)⟩,
 ⟨(some 64), none, false, .mov (.t 63)⟩,
 ⟨(some 65), (some (64, false)), false, .mov (.t 6)⟩,
 ⟨(some 66), (some (64, false)), false, .mov (.t 9)⟩,
 ⟨(some 67), (some (64, false)), false, .bin .neq (.t 65) (.t 66)⟩,
 ⟨(some 68), none, false, .pick (.t 64) (.k (.d (.bool true))) (.t 67)⟩,
 ⟨(some 69), none, false, .mov (.t 68)⟩,
 ⟨(some 70), (some (69, false)), false, .mov (.t 7)⟩,
 ⟨(some 71), (some (69, false)), false, .mov (.t 10)⟩,
 ⟨(some 72), (some (69, false)), false, .bb .neq (.t 70) (.t 71)⟩,
 ⟨(some 73), none, false, .pick (.t 69) (.k (.d (.bool true))) (.t 72)⟩])
 (.cond (.t 73)
 (.seq
 (.reg false [2] [⟨(some 2), none, false, .mov (.k (.d (.bool false)))⟩])
 .ret)
 .skip)))
 (.seq
 (.reg false [0, 6, 7, 11, 12] [⟨(some 75), none, false, .mov (.t 3)⟩,
 ⟨(some 76), none, false, .mov (.t 4)⟩,
 ⟨(some 77), none, true, .call 20 [(.t 75), (.t 76)]⟩,
 ⟨(some 74), none, false, .mov (.t 77)⟩,
 ⟨(some 78), none, false, .ext (.t 74) 0⟩,
 ⟨(some 79), none, false, .ext (.t 74) 1⟩,
 ⟨(some 11), none, false, .mov (.t 78)⟩,
 ⟨(some 12), none, false, .mov (.t 79)⟩])
 (.seq
 (.seq
 (.reg false [0, 6, 7, 11, 12, 13] [⟨(some 13), none, false, .mov (.k (.d (.int .i64 0)))⟩])
 (.block 0
 (.loop
 (.seq
 (.seq
 (.reg false [0, 6, 7, 11, 12, 13, 86] [⟨(some 80), none, false, .mov (.t 13)⟩,
 ⟨(some 81), none, false, .mov (.t 11)⟩,
 ⟨(some 82), none, false, .len false (.t 81)⟩,
 ⟨(some 83), none, false, .bin .lss (.t 80) (.t 82)⟩,
 ⟨(some 84), none, false, .mov (.t 83)⟩,
 ⟨(some 85), (some (84, true)), false, .mov (.t 7)⟩,
 ⟨(some 86), none, false, .pick (.t 84) (.t 85) (.k (.d (.bool false)))⟩])
 (.cond (.t 86)
 .skip
 (.exit 0)))
 (.seq
 (.block 1
 (.seq
 (.reg false [0, 6, 7, 11, 12, 13, 98] [⟨(some 89), none, false, .mov (.t 12)⟩,
 ⟨(some 90), none, false, .un .not (.t 89)⟩,
 ⟨(some 91), none, false, .mov (.t 90)⟩,
 ⟨(some 92), (some (91, false)), false, .mov (.t 11)⟩,
 ⟨(some 93), (some (91, false)), false, .mov (.t 13)⟩,
 ⟨(some 94), (some (91, false)), false, .ia 1 (.t 92) (.t 93)⟩,
 ⟨(some 95), (some (91, false)), false, .ld none (.t 94)⟩,
 ⟨(some 96), (some (91, false)), false, .mov (.t 6)⟩,
 ⟨(some 97), (some (91, false)), false, .bin .gtr (.t 95) (.t 96)⟩,
 ⟨(some 98), none, false, .pick (.t 91) (.k (.d (.bool true))) (.t 97)⟩])
 (.cond (.t 98)
 (.seq
 (.reg false [2] [⟨(some 2), none, false, .mov (.k (.d (.bool false)))⟩])
 .ret)
 .skip)))
 (.reg false [0, 6, 7, 11, 12, 13] [⟨(some 87), none, false, .mov (.t 13)⟩,
 ⟨(some 88), none, false, .bin .add (.t 87) (.k (.d (.int .i64 1)))⟩,
 ⟨(some 13), none, false, .mov (.t 88)⟩]))))))
 (.seq
 (.reg false [0, 14, 15] [⟨(some 100), none, false, .mov (.t 0)⟩,
 ⟨(some 101), none, true, .call 21 [(.t 100)]⟩,
 ⟨(some 99), none, false, .mov (.t 101)⟩,
 ⟨(some 102), none, false, .ext (.t 99) 0⟩,
 ⟨(some 103), none, false, .ext (.t 99) 1⟩,
 ⟨(some 14), none, false, .mov (.t 102)⟩,
 ⟨(some 15), none, false, .mov (.t 103)⟩])
 (.seq
 (.reg false [0, 14, 15, 16, 17] [⟨(some 105), none, false, .mov (.t 14)⟩,
 ⟨(some 106), none, false, .mov (.t 15)⟩,
 ⟨(some 107), none, true, .call 22 [(.t 105), (.t 106)]⟩,
 ⟨(some 104), none, false, .mov (.t 107)⟩,
 ⟨(some 108), none, false, .ext (.t 104) 0⟩,
 ⟨(some 109), none, false, .ext (.t 104) 1⟩,
 ⟨(some 16), none, false, .mov (.t 108)⟩,
 ⟨(some 17), none, false, .mov (.t 109)⟩])
 (.seq
 (.seq
 (.reg false [0, 14, 15, 16, 17, 18, 19] [⟨(some 111), none, false, .mov (.t 14)⟩,
 ⟨(some 112), none, false, .mov (.t 15)⟩,
 ⟨(some 113), none, true, .call 23 [(.t 111), (.t 112)]⟩,
 ⟨(some 110), none, false, .mov (.t 113)⟩,
 ⟨(some 114), none, false, .ext (.t 110) 0⟩,
 ⟨(some 115), none, false, .ext (.t 110) 1⟩,
 ⟨(some 18), none, false, .mov (.t 114)⟩,
 ⟨(some 19), none, false, .mov (.t 115)⟩])
 (.seq
 (.reg false [0, 14, 15, 16, 17, 123] [⟨(some 116), none, false, .mov (.t 16)⟩,
 ⟨(some 117), none, false, .mov (.t 18)⟩,
 ⟨(some 118), none, false, .bin .neq (.t 116) (.t 117)⟩,
 ⟨(some 119), none, false, .mov (.t 118)⟩,
 ⟨(some 120), (some (119, false)), false, .mov (.t 17)⟩,
 ⟨(some 121), (some (119, false)), false, .mov (.t 19)⟩,
 ⟨(some 122), (some (119, false)), false, .bb .neq (.t 120) (.t 121)⟩,
 ⟨(some 123), none, false, .pick (.t 119) (.k (.d (.bool true))) (.t 122)⟩])
 (.cond (.t 123)
 (.seq
 (.reg false [2] [⟨(some 2), none, false, .mov (.k (.d (.bool false)))⟩])
 .ret)
 .skip)))
 (.seq
 (.reg false [0, 15, 16, 17, 20, 21] [⟨(some 125), none, false, .mov (.t 14)⟩,
 ⟨(some 126), none, false, .mov (.t 15)⟩,
 ⟨(some 127), none, true, .call 20 [(.t 125), (.t 126)]⟩,
 ⟨(some 124), none, false, .mov (.t 127)⟩,
 ⟨(some 128), none, false, .ext (.t 124) 0⟩,
 ⟨(some 129), none, false, .ext (.t 124) 1⟩,
 ⟨(some 20), none, false, .mov (.t 128)⟩,
 ⟨(some 21), none, false, .mov (.t 129)⟩])
 (.seq
 (.seq
 (.reg false [0, 15, 16, 17, 20, 21, 22] [⟨(some 130), none, false, .mov (.t 20)⟩,
 ⟨(some 131), none, false, .len false (.t 130)⟩,
 ⟨(some 22), none, false, .mov (.t 131)⟩])
 (.seq
 (.reg false [0, 15, 16, 20, 21, 22, 132] [⟨(some 132), none, false, .mov (.t 17)⟩])
 (.cond (.t 132)
 (.seq
 (.seq
 (.reg false [0, 15, 16, 20, 22, 144] [⟨(some 133), none, false, .mov (.t 21)⟩,
 ⟨(some 134), none, false, .un .not (.t 133)⟩,
 ⟨(some 135), none, false, .mov (.t 134)⟩,
 ⟨(some 136), (some (135, false)), false, .mov (.t 22)⟩,
 ⟨(some 137), (some (135, false)), false, .bin .eql (.t 136) (.k (.d (.int .i64 0)))⟩,
 ⟨(some 138), none, false, .pick (.t 135) (.k (.d (.bool true))) (.t 137)⟩,
 ⟨(some 139), none, false, .mov (.t 138)⟩,
 ⟨(some 140), (some (139, false)), false, .mov (.t 22)⟩,
 ⟨(some 141), (some (139, false)), false, .mov (.t 15)⟩,
 ⟨(some 142), (some (139, false)), false, .len false (.t 141)⟩,
 ⟨(some 143), (some (139, false)), false, .bin .neq (.t 140) (.t 142)⟩,
 ⟨(some 144), none, false, .pick (.t 139) (.k (.d (.bool true))) (.t 143)⟩])
 (.cond (.t 144)
 (.seq
 (.reg false [2] [⟨(some 2), none, false, .mov (.k (.d (.bool false)))⟩])
 .ret)
 .skip))
 (.seq
 (.reg false [0, 16, 20, 22, 23] [⟨(some 145), none, false, .mov (.t 15)⟩,
 ⟨(some 146), none, false, .mov (.t 22)⟩,
 ⟨(some 147), none, false, .bin .sub (.t 146) (.k (.d (.int .i64 1)))⟩,
 ⟨(some 148), none, false, .ia 5 (.t 145) (.t 147)⟩,
 ⟨(some 149), none, false, .ld (some 5) (.t 148)⟩,
 ⟨(some 23), none, true, .alloc (.st (.cons (.int .i64 0) (.cons (.int .i64 0) (.cons (.int .i64 0) (.cons (.int .i64 0) (.cons (.int .i64 0) .nil))))))⟩,
 ⟨none, none, true, .st 5 (.t 23) (.t 149)⟩])
 (.seq
 (.reg false [0, 16, 20, 22, 24] [⟨(some 150), none, false, .fa 2 2 (.t 23)⟩,
 ⟨(some 151), none, false, .ld none (.t 150)⟩,
 ⟨(some 152), none, false, .fa 3 3 (.t 23)⟩,
 ⟨(some 153), none, false, .ld none (.t 152)⟩,
 ⟨(some 154), none, false, .bin .add (.t 151) (.t 153)⟩,
 ⟨(some 155), none, false, .fa 4 4 (.t 23)⟩,
 ⟨(some 156), none, false, .ld none (.t 155)⟩,
 ⟨(some 157), none, false, .bin .add (.t 154) (.t 156)⟩,
 ⟨(some 24), none, false, .mov (.t 157)⟩])
 (.seq
 (.reg false [0, 182] [⟨(some 158), none, false, .mov (.t 16)⟩,
 ⟨(some 159), none, false, .mov (.t 24)⟩,
 ⟨(some 160), none, false, .bin .mul (.t 158) (.t 159)⟩,
 ⟨(some 161), none, false, .mov (.t 20)⟩,
 ⟨(some 162), none, false, .mov (.t 22)⟩,
 ⟨(some 163), none, false, .bin .sub (.t 162) (.k (.d (.int .i64 1)))⟩,
 ⟨(some 164), none, false, .ia 1 (.t 161) (.t 163)⟩,
 ⟨(some 165), none, false, .ld none (.t 164)⟩,
 ⟨(some 166), none, false, .bin .lss (.t 160) (.t 165)⟩,
 ⟨(some 167), none, false, .mov (.t 166)⟩,
 ⟨(some 168), (some (167, false)), false, .mov (.t 16)⟩,
 ⟨(some 169), (some (167, false)), false, .bin .gtr (.t 168) (.k (.d (.int .i64 0)))⟩,
 ⟨(some 170), (some (167, false)), false, .mov (.t 169)⟩,
 ⟨(some 171), (some (170, true)), false, .mov (.t 16)⟩,
 ⟨(some 172), (some (170, true)), false, .bin .sub (.t 171) (.k (.d (.int .i64 1)))⟩,
 ⟨(some 173), (some (170, true)), false, .mov (.t 24)⟩,
 ⟨(some 174), (some (170, true)), false, .bin .mul (.t 172) (.t 173)⟩,
 ⟨(some 175), (some (170, true)), false, .mov (.t 20)⟩,
 ⟨(some 176), (some (170, true)), false, .mov (.t 22)⟩,
 ⟨(some 177), (some (170, true)), false, .bin .sub (.t 176) (.k (.d (.int .i64 1)))⟩,
 ⟨(some 178), (some (170, true)), false, .ia 1 (.t 175) (.t 177)⟩,
 ⟨(some 179), (some (170, true)), false, .ld none (.t 178)⟩,
 ⟨(some 180), (some (170, true)), false, .bin .geq (.t 174) (.t 179)⟩,
 ⟨(some 181), (some (167, false)), false, .pick (.t 170) (.t 180) (.k (.d (.bool false)))⟩,
 ⟨(some 182), none, false, .pick (.t 167) (.k (.d (.bool true))) (.t 181)⟩])
 (.cond (.t 182)
 (.seq
 (.reg false [2] [⟨(some 2), none, false, .mov (.k (.d (.bool false)))⟩])
 .ret)
 .skip)))))
 .skip)))
 (.seq
 (.reg false [0, 25, 26] [⟨(some 184), none, false, .mov (.t 0)⟩,
 ⟨(some 185), none, true, .call 24 [(.t 184)]⟩,
 ⟨(some 183), none, false, .mov (.t 185)⟩,
 ⟨(some 186), none, false, .ext (.t 183) 0⟩,
 ⟨(some 187), none, false, .ext (.t 183) 1⟩,
 ⟨(some 25), none, false, .mov (.t 186)⟩,
 ⟨(some 26), none, false, .mov (.t 187)⟩])
 (.seq
 (.reg false [0, 25, 26, 27, 28] [⟨(some 189), none, false, .mov (.t 25)⟩,
 ⟨(some 190), none, false, .mov (.t 26)⟩,
 ⟨(some 191), none, true, .call 25 [(.t 189), (.t 190)]⟩,
 ⟨(some 188), none, false, .mov (.t 191)⟩,
 ⟨(some 192), none, false, .ext (.t 188) 0⟩,
 ⟨(some 193), none, false, .ext (.t 188) 1⟩,
 ⟨(some 27), none, false, .mov (.t 192)⟩,
 ⟨(some 28), none, false, .mov (.t 193)⟩])
 (.seq
 (.seq
 (.reg false [0, 26, 27, 28, 29, 30] [⟨(some 195), none, false, .mov (.t 25)⟩,
 ⟨(some 196), none, false, .mov (.t 26)⟩,
 ⟨(some 197), none, true, .call 26 [(.t 195), (.t 196)]⟩,
 ⟨(some 194), none, false, .mov (.t 197)⟩,
 ⟨(some 198), none, false, .ext (.t 194) 0⟩,
 ⟨(some 199), none, false, .ext (.t 194) 1⟩,
 ⟨(some 29), none, false, .mov (.t 198)⟩,
 ⟨(some 30), none, false, .mov (.t 199)⟩])
 (.seq
 (.reg false [0, 26, 27, 208] [⟨(some 200), none, false, .mov (.t 28)⟩,
 ⟨(some 201), none, false, .mov (.t 30)⟩,
 ⟨(some 202), none, false, .bb .neq (.t 200) (.t 201)⟩,
 ⟨(some 203), none, false, .mov (.t 202)⟩,
 ⟨(some 204), (some (203, false)), false, .mov (.t 27)⟩,
 ⟨(some 205), (some (203, false)), false, .mov (.t 29)⟩,
 ⟨(some 206), (some (203, false)), true, .call 27 [(.t 204), (.t 205)]⟩,
 ⟨(some 207), (some (203, false)), false, .un .not (.t 206)⟩,
 ⟨(some 208), none, false, .pick (.t 203) (.k (.d (.bool true))) (.t 207)⟩])
 (.cond (.t 208)
 (.seq
 (.reg false [2] [⟨(some 2), none, false, .mov (.k (.d (.bool false)))⟩])
 .ret)
 .skip)))
 (.seq
 (.seq
 (.reg false [0, 26, 27, 31] [⟨(some 31), none, false, .mov (.k (.d (.int .i64 0)))⟩])
 (.block 2
 (.loop
 (.seq
 (.seq
 (.reg false [0, 26, 27, 31, 212] [⟨(some 209), none, false, .mov (.t 31)⟩,
 ⟨(some 210), none, false, .mov (.t 26)⟩,
 ⟨(some 211), none, false, .len false (.t 210)⟩,
 ⟨(some 212), none, false, .bin .lss (.t 209) (.t 211)⟩])
 (.cond (.t 212)
 .skip
 (.exit 2)))
 (.seq
 (.block 3
 (.seq
 (.reg false [0, 26, 27, 31, 221] [⟨(some 215), none, false, .mov (.t 27)⟩,
 ⟨(some 216), none, false, .mov (.t 26)⟩,
 ⟨(some 217), none, false, .mov (.t 31)⟩,
 ⟨(some 218), none, false, .ia 5 (.t 216) (.t 217)⟩,
 ⟨(some 219), none, false, .fa 0 0 (.t 218)⟩,
 ⟨(some 220), none, false, .ld none (.t 219)⟩,
 ⟨(some 221), none, true, .call 28 [(.t 215), (.t 220)]⟩])
 (.cond (.t 221)
 (.seq
 (.reg false [2] [⟨(some 2), none, false, .mov (.k (.d (.bool false)))⟩])
 .ret)
 .skip)))
 (.reg false [0, 26, 27, 31] [⟨(some 213), none, false, .mov (.t 31)⟩,
 ⟨(some 214), none, false, .bin .add (.t 213) (.k (.d (.int .i64 1)))⟩,
 ⟨(some 31), none, false, .mov (.t 214)⟩]))))))
 (.seq
 (.reg false [32, 33] [⟨(some 223), none, false, .mov (.t 0)⟩,
 ⟨(some 224), none, true, .call 29 [(.t 223)]⟩,
 ⟨(some 222), none, false, .mov (.t 224)⟩,
 ⟨(some 225), none, false, .ext (.t 222) 0⟩,
 ⟨(some 226), none, false, .ext (.t 222) 1⟩,
 ⟨(some 32), none, false, .mov (.t 225)⟩,
 ⟨(some 33), none, false, .mov (.t 226)⟩])
 (.seq
 (.reg false [32, 33, 34, 35, 36] [⟨(some 228), none, false, .mov (.t 32)⟩,
 ⟨(some 229), none, false, .mov (.t 33)⟩,
 ⟨(some 230), none, true, .call 30 [(.t 228), (.t 229)]⟩,
 ⟨(some 227), none, false, .mov (.t 230)⟩,
 ⟨(some 231), none, false, .ext (.t 227) 0⟩,
 ⟨(some 232), none, false, .ext (.t 227) 1⟩,
 ⟨(some 233), none, false, .ext (.t 227) 2⟩,
 ⟨(some 34), none, false, .mov (.t 231)⟩,
 ⟨(some 35), none, false, .mov (.t 232)⟩,
 ⟨(some 36), none, false, .mov (.t 233)⟩])
 (.seq
 (.reg false [34, 35, 36, 37, 38, 39] [⟨(some 235), none, false, .mov (.t 32)⟩,
 ⟨(some 236), none, false, .mov (.t 33)⟩,
 ⟨(some 237), none, true, .call 31 [(.t 235), (.t 236)]⟩,
 ⟨(some 234), none, false, .mov (.t 237)⟩,
 ⟨(some 238), none, false, .ext (.t 234) 0⟩,
 ⟨(some 239), none, false, .ext (.t 234) 1⟩,
 ⟨(some 240), none, false, .ext (.t 234) 2⟩,
 ⟨(some 37), none, false, .mov (.t 238)⟩,
 ⟨(some 38), none, false, .mov (.t 239)⟩,
 ⟨(some 39), none, false, .mov (.t 240)⟩])
 (.seq
 (.reg false [2] [⟨(some 241), none, false, .mov (.t 34)⟩,
 ⟨(some 242), none, false, .mov (.t 37)⟩,
 ⟨(some 243), none, false, .bin .eql (.t 241) (.t 242)⟩,
 ⟨(some 244), none, false, .mov (.t 243)⟩,
 ⟨(some 245), (some (244, true)), false, .mov (.t 35)⟩,
 ⟨(some 246), (some (244, true)), false, .mov (.t 38)⟩,
 ⟨(some 247), (some (244, true)), false, .bin .eql (.t 245) (.t 246)⟩,
 ⟨(some 248), none, false, .pick (.t 244) (.t 247) (.k (.d (.bool false)))⟩,
 ⟨(some 249), none, false, .mov (.t 248)⟩,
 ⟨(some 250), (some (249, true)), false, .mov (.t 36)⟩,
 ⟨(some 251), (some (249, true)), false, .mov (.t 39)⟩,
 ⟨(some 252), (some (249, true)), false, .bb .eql (.t 250) (.t 251)⟩,
 ⟨(some 253), none, false, .pick (.t 249) (.t 252) (.k (.d (.bool false)))⟩,
 ⟨(some 254), none, false, .mov (.t 253)⟩,
 ⟨(some 255), (some (254, true)), false, .mov (.t 36)⟩,
 ⟨(some 256), (some (254, true)), false, .un .not (.t 255)⟩,
 ⟨(some 257), (some (254, true)), false, .mov (.t 256)⟩,
 ⟨(some 258), (some (257, false)), false, .mov (.t 34)⟩,
 ⟨(some 259), (some (257, false)), false, .mov (.t 35)⟩,
 ⟨(some 260), (some (257, false)), false, .bin .leq (.t 258) (.t 259)⟩,
 ⟨(some 261), (some (254, true)), false, .pick (.t 257) (.k (.d (.bool true))) (.t 260)⟩,
 ⟨(some 262), none, false, .pick (.t 254) (.t 261) (.k (.d (.bool false)))⟩,
 ⟨(some 2), none, false, .mov (.t 262)⟩])
 .ret))))))))))))))))))))
theorem c4 : (Go.Proofs.Try.f4).body.bind (comp prog.P (1, (Go.Proofs.Try.f4).ntmps) lv4) = some m4 := by kernel_rfl
theorem r4 : resOK prog.P (Go.Proofs.Try.f4).results.toList = true := by kernel_rfl

/-- laws.rBig -/
def lv16 : List (Nat × List Nat) := [(0, [0]), (1, [2])]
def m16 : MC :=
  (.seq
 (.reg false [0] [⟨(some 2), none, false, .mov (.k (.d (.bool false)))⟩])
 (.seq
 (.reg false [2] [⟨(some 3), none, false, .mov (.t 0)⟩,
 ⟨(some 4), none, false, .len false (.t 3)⟩,
 ⟨(some 5), none, false, .bin .gtr (.t 4) (.k (.d (.int .i64 65536)))⟩,
 ⟨(some 2), none, false, .mov (.t 5)⟩])
 .ret))
theorem c16 : (Go.Proofs.Try.f16).body.bind (comp prog.P (1, (Go.Proofs.Try.f16).ntmps) lv16) = some m16 := by kernel_rfl
theorem r16 : resOK prog.P (Go.Proofs.Try.f16).results.toList = true := by kernel_rfl

/-- spec.DrawLargestRest -/
def lv17 : List (Nat × List Nat) := [(0, [0]), (1, [4, 5]), (2, [2, 3])]
def m17 : MC :=
  (.seq
 (.reg false [0] [⟨(some 2), none, false, .mov (.k (.d (.int .i64 0)))⟩,
 ⟨(some 3), none, false, .mov (.k .nil)⟩])
 (.seq
 (.reg false [4, 5] [⟨(some 7), none, false, .mov (.t 0)⟩,
 ⟨(some 8), none, true, .call 72 [(.t 7)]⟩,
 ⟨(some 6), none, false, .mov (.t 8)⟩,
 ⟨(some 9), none, false, .ext (.t 6) 0⟩,
 ⟨(some 10), none, false, .ext (.t 6) 1⟩,
 ⟨(some 4), none, false, .mov (.t 9)⟩,
 ⟨(some 5), none, false, .mov (.t 10)⟩])
 (.seq
 (.reg false [2, 3] [⟨(some 11), none, false, .mov (.t 4)⟩,
 ⟨(some 12), none, false, .mov (.t 5)⟩,
 ⟨(some 2), none, false, .mov (.t 11)⟩,
 ⟨(some 3), none, false, .mov (.t 12)⟩])
 .ret)))
theorem c17 : (Go.Proofs.Try.f17).body.bind (comp prog.P (1, (Go.Proofs.Try.f17).ntmps) lv17) = some m17 := by kernel_rfl
theorem r17 : resOK prog.P (Go.Proofs.Try.f17).results.toList = true := by kernel_rfl

/-- impl.LargestRest -/
def lv18 : List (Nat × List Nat) := [(0, [0, 1]), (1, [1, 7, 8]), (2, [1, 7, 22]), (3, [4, 5, 6]), (4, [1, 7, 9]), (5, [4, 5, 6])]
def m18 : MC :=
  (.seq
 (.reg false [0, 1] [⟨(some 4), none, false, .mov (.k (.d (.int .i64 0)))⟩,
 ⟨(some 5), none, false, .mov (.k (.d (.int .i64 0)))⟩,
 ⟨(some 6), none, false, .mov (.k (.d (.bool false)))⟩])
 (.seq
 (.reg false [1, 7, 8] [⟨(some 11), none, false, .mov (.t 0)⟩,
 ⟨(some 12), none, false, .mov (.t 1)⟩,
 ⟨(some 13), none, true, .call 73 [(.t 11), (.t 12)]⟩,
 ⟨(some 10), none, false, .mov (.t 13)⟩,
 ⟨(some 14), none, false, .ext (.t 10) 0⟩,
 ⟨(some 15), none, false, .ext (.t 10) 1⟩,
 ⟨(some 7), none, false, .mov (.t 14)⟩,
 ⟨(some 8), none, false, .mov (.t 15)⟩])
 (.seq
 (.seq
 (.reg false [1, 7, 22] [⟨(some 16), none, false, .mov (.t 8)⟩,
 ⟨(some 17), none, false, .un .not (.t 16)⟩,
 ⟨(some 18), none, false, .mov (.t 17)⟩,
 ⟨(some 19), (some (18, false)), false, .mov (.t 7)⟩,
 ⟨(some 20), (some (18, false)), false, .len false (.t 19)⟩,
 ⟨(some 21), (some (18, false)), false, .bin .eql (.t 20) (.k (.d (.int .i64 0)))⟩,
 ⟨(some 22), none, false, .pick (.t 18) (.k (.d (.bool true))) (.t 21)⟩])
 (.cond (.t 22)
 (.seq
 (.reg false [4, 5, 6] [⟨(some 4), none, false, .mov (.k (.d (.int .i64 0)))⟩,
 ⟨(some 5), none, false, .mov (.k (.d (.int .i64 0)))⟩,
 ⟨(some 6), none, false, .mov (.k (.d (.bool false)))⟩])
 .ret)
 .skip))
 (.seq
 (.reg false [1, 7, 9] [⟨(some 23), none, false, .mov (.t 7)⟩,
 ⟨(some 24), none, true, .call 74 [(.t 23)]⟩,
 ⟨(some 9), none, false, .mov (.t 24)⟩])
 (.seq
 (.reg false [4, 5, 6] [⟨(some 25), none, false, .mov (.t 1)⟩,
 ⟨(some 26), none, false, .mov (.t 7)⟩,
 ⟨(some 27), none, false, .mov (.t 9)⟩,
 ⟨(some 28), none, true, .call 75 [(.t 26), (.t 27)]⟩,
 ⟨(some 29), none, false, .ia 5 (.t 25) (.t 28)⟩,
 ⟨(some 30), none, false, .fa 0 0 (.t 29)⟩,
 ⟨(some 31), none, false, .ld none (.t 30)⟩,
 ⟨(some 32), none, false, .mov (.t 9)⟩,
 ⟨(some 4), none, false, .mov (.t 31)⟩,
 ⟨(some 5), none, false, .mov (.t 32)⟩,
 ⟨(some 6), none, false, .mov (.k (.d (.bool true)))⟩])
 .ret)))))
theorem c18 : (Go.Proofs.Try.f18).body.bind (comp prog.P (2, (Go.Proofs.Try.f18).ntmps) lv18) = some m18 := by kernel_rfl
theorem r18 : resOK prog.P (Go.Proofs.Try.f18).results.toList = true := by kernel_rfl

/-- spec.LargestRest -/
def lv19 : List (Nat × List Nat) := [(0, [0, 1]), (1, [0, 1, 18]), (2, [4, 5, 6]), (3, [1, 7]), (4, [1, 7, 8]), (5, [1, 7, 8, 9]), (6, [1, 7, 8, 9, 25]), (7, [1, 7, 8, 9]), (8, [1, 7, 8, 9, 36]), (9, [1, 7, 8, 9]), (10, [4, 5, 6])]
def m19 : MC :=
  (.seq
 (.reg false [0, 1] [⟨(some 4), none, false, .mov (.k (.d (.int .i64 0)))⟩,
 ⟨(some 5), none, false, .mov (.k (.d (.int .i64 0)))⟩,
 ⟨(some 6), none, false, .mov (.k (.d (.bool false)))⟩])
 (.seq
 (.seq
 (.reg false [0, 1, 18] [⟨(some 10), none, false, .mov (.t 0)⟩,
 ⟨(some 11), none, false, .mov (.t 1)⟩,
 ⟨(some 12), none, true, .call 76 [(.t 10), (.t 11)]⟩,
 ⟨(some 13), none, false, .un .not (.t 12)⟩,
 ⟨(some 14), none, false, .mov (.t 13)⟩,
 ⟨(some 15), (some (14, false)), false, .mov (.t 1)⟩,
 ⟨(some 16), (some (14, false)), false, .len false (.t 15)⟩,
 ⟨(some 17), (some (14, false)), false, .bin .eql (.t 16) (.k (.d (.int .i64 0)))⟩,
 ⟨(some 18), none, false, .pick (.t 14) (.k (.d (.bool true))) (.t 17)⟩])
 (.cond (.t 18)
 (.seq
 (.reg false [4, 5, 6] [⟨(some 4), none, false, .mov (.k (.d (.int .i64 0)))⟩,
 ⟨(some 5), none, false, .mov (.k (.d (.int .i64 0)))⟩,
 ⟨(some 6), none, false, .mov (.k (.d (.bool false)))⟩])
 .ret)
 .skip))
 (.seq
 (.reg false [1, 7] [⟨(some 19), none, false, .mov (.t 0)⟩,
 ⟨(some 20), none, false, .mov (.t 1)⟩,
 ⟨(some 21), none, true, .call 77 [(.t 19), (.t 20)]⟩,
 ⟨(some 7), none, false, .mov (.t 21)⟩])
 (.seq
 (.reg false [1, 7, 8] [⟨(some 8), none, false, .mov (.k (.d (.int .i64 0)))⟩])
 (.seq
 (.seq
 (.reg false [1, 7, 8, 9] [⟨(some 9), none, false, .mov (.k (.d (.int .i64 1)))⟩])
 (.block 0
 (.loop
 (.seq
 (.seq
 (.reg false [1, 7, 8, 9, 25] [⟨(some 22), none, false, .mov (.t 9)⟩,
 ⟨(some 23), none, false, .mov (.t 7)⟩,
 ⟨(some 24), none, false, .len false (.t 23)⟩,
 ⟨(some 25), none, false, .bin .lss (.t 22) (.t 24)⟩])
 (.cond (.t 25)
 .skip
 (.exit 0)))
 (.seq
 (.block 1
 (.seq
 (.reg true [1, 7, 8, 9, 36] [⟨(some 28), none, false, .mov (.t 7)⟩,
 ⟨(some 29), none, false, .mov (.t 9)⟩,
 ⟨(some 30), none, false, .ia 1 (.t 28) (.t 29)⟩,
 ⟨(some 31), none, false, .ld none (.t 30)⟩,
 ⟨(some 32), none, false, .mov (.t 7)⟩,
 ⟨(some 33), none, false, .mov (.t 8)⟩,
 ⟨(some 34), none, false, .ia 1 (.t 32) (.t 33)⟩,
 ⟨(some 35), none, false, .ld none (.t 34)⟩,
 ⟨(some 36), none, false, .bin .gtr (.t 31) (.t 35)⟩])
 (.cond (.t 36)
 (.reg false [1, 7, 8, 9] [⟨(some 37), none, false, .mov (.t 9)⟩,
 ⟨(some 8), none, false, .mov (.t 37)⟩])
 .skip)))
 (.reg false [1, 7, 8, 9] [⟨(some 26), none, false, .mov (.t 9)⟩,
 ⟨(some 27), none, false, .bin .add (.t 26) (.k (.d (.int .i64 1)))⟩,
 ⟨(some 9), none, false, .mov (.t 27)⟩]))))))
 (.seq
 (.reg true [4, 5, 6] [⟨(some 38), none, false, .mov (.t 1)⟩,
 ⟨(some 39), none, false, .mov (.t 8)⟩,
 ⟨(some 40), none, false, .ia 5 (.t 38) (.t 39)⟩,
 ⟨(some 41), none, false, .fa 0 0 (.t 40)⟩,
 ⟨(some 42), none, false, .ld none (.t 41)⟩,
 ⟨(some 43), none, false, .mov (.t 7)⟩,
 ⟨(some 44), none, false, .mov (.t 8)⟩,
 ⟨(some 45), none, false, .ia 1 (.t 43) (.t 44)⟩,
 ⟨(some 46), none, false, .ld none (.t 45)⟩,
 ⟨(some 4), none, false, .mov (.t 42)⟩,
 ⟨(some 5), none, false, .mov (.t 46)⟩,
 ⟨(some 6), none, false, .mov (.k (.d (.bool true)))⟩])
 .ret))))))
theorem c19 : (Go.Proofs.Try.f19).body.bind (comp prog.P (2, (Go.Proofs.Try.f19).ntmps) lv19) = some m19 := by kernel_rfl
theorem r19 : resOK prog.P (Go.Proofs.Try.f19).results.toList = true := by kernel_rfl

/-- impl.RestsAfter -/
def lv20 : List (Nat × List Nat) := [(0, [0, 1]), (1, [4, 5])]
def m20 : MC :=
  (.seq
 (.reg false [0, 1] [⟨(some 4), none, false, .mov (.k .nil)⟩,
 ⟨(some 5), none, false, .mov (.k (.d (.bool false)))⟩])
 (.seq
 (.reg false [4, 5] [⟨(some 6), none, false, .mov (.t 0)⟩,
 ⟨(some 7), none, false, .mov (.t 1)⟩,
 ⟨(some 8), none, true, .call 73 [(.t 6), (.t 7)]⟩,
 ⟨(some 9), none, false, .ext (.t 8) 0⟩,
 ⟨(some 10), none, false, .ext (.t 8) 1⟩,
 ⟨(some 4), none, false, .mov (.t 9)⟩,
 ⟨(some 5), none, false, .mov (.t 10)⟩])
 .ret))
theorem c20 : (Go.Proofs.Try.f20).body.bind (comp prog.P (2, (Go.Proofs.Try.f20).ntmps) lv20) = some m20 := by kernel_rfl
theorem r20 : resOK prog.P (Go.Proofs.Try.f20).results.toList = true := by kernel_rfl

/-- spec.DrawYearsToClear -/
def lv21 : List (Nat × List Nat) := [(0, [0]), (1, [4, 5]), (2, [2, 3])]
def m21 : MC :=
  (.seq
 (.reg false [0] [⟨(some 2), none, false, .mov (.k (.d (.int .i64 0)))⟩,
 ⟨(some 3), none, false, .mov (.k .nil)⟩])
 (.seq
 (.reg false [4, 5] [⟨(some 7), none, false, .mov (.t 0)⟩,
 ⟨(some 8), none, true, .call 72 [(.t 7)]⟩,
 ⟨(some 6), none, false, .mov (.t 8)⟩,
 ⟨(some 9), none, false, .ext (.t 6) 0⟩,
 ⟨(some 10), none, false, .ext (.t 6) 1⟩,
 ⟨(some 4), none, false, .mov (.t 9)⟩,
 ⟨(some 5), none, false, .mov (.t 10)⟩])
 (.seq
 (.reg false [2, 3] [⟨(some 11), none, false, .mov (.t 4)⟩,
 ⟨(some 12), none, false, .mov (.t 5)⟩,
 ⟨(some 2), none, false, .mov (.t 11)⟩,
 ⟨(some 3), none, false, .mov (.t 12)⟩])
 .ret)))
theorem c21 : (Go.Proofs.Try.f21).body.bind (comp prog.P (1, (Go.Proofs.Try.f21).ntmps) lv21) = some m21 := by kernel_rfl
theorem r21 : resOK prog.P (Go.Proofs.Try.f21).results.toList = true := by kernel_rfl

/-- impl.YearsToClear -/
def lv22 : List (Nat × List Nat) := [(0, [0, 1]), (1, [1, 6, 7]), (2, [1, 6, 22]), (3, [4, 5]), (4, [8, 9]), (5, [8, 9, 36]), (6, [4, 5]), (7, [8, 9, 39]), (8, [4, 5]), (9, [4, 5])]
def m22 : MC :=
  (.seq
 (.reg false [0, 1] [⟨(some 4), none, false, .mov (.k (.d (.int .i64 0)))⟩,
 ⟨(some 5), none, false, .mov (.k (.d (.bool false)))⟩])
 (.seq
 (.reg false [1, 6, 7] [⟨(some 11), none, false, .mov (.t 0)⟩,
 ⟨(some 12), none, false, .mov (.t 1)⟩,
 ⟨(some 13), none, true, .call 73 [(.t 11), (.t 12)]⟩,
 ⟨(some 10), none, false, .mov (.t 13)⟩,
 ⟨(some 14), none, false, .ext (.t 10) 0⟩,
 ⟨(some 15), none, false, .ext (.t 10) 1⟩,
 ⟨(some 6), none, false, .mov (.t 14)⟩,
 ⟨(some 7), none, false, .mov (.t 15)⟩])
 (.seq
 (.seq
 (.reg false [1, 6, 22] [⟨(some 16), none, false, .mov (.t 7)⟩,
 ⟨(some 17), none, false, .un .not (.t 16)⟩,
 ⟨(some 18), none, false, .mov (.t 17)⟩,
 ⟨(some 19), (some (18, false)), false, .mov (.t 6)⟩,
 ⟨(some 20), (some (18, false)), false, .len false (.t 19)⟩,
 ⟨(some 21), (some (18, false)), false, .bin .eql (.t 20) (.k (.d (.int .i64 0)))⟩,
 ⟨(some 22), none, false, .pick (.t 18) (.k (.d (.bool true))) (.t 21)⟩])
 (.cond (.t 22)
 (.seq
 (.reg false [4, 5] [⟨(some 4), none, false, .mov (.k (.d (.int .i64 0)))⟩,
 ⟨(some 5), none, false, .mov (.k (.d (.bool false)))⟩])
 .ret)
 .skip))
 (.seq
 (.reg true [8, 9] [⟨(some 23), none, false, .mov (.t 6)⟩,
 ⟨(some 24), none, false, .mov (.t 6)⟩,
 ⟨(some 25), none, false, .len false (.t 24)⟩,
 ⟨(some 26), none, false, .bin .sub (.t 25) (.k (.d (.int .i64 1)))⟩,
 ⟨(some 27), none, false, .ia 1 (.t 23) (.t 26)⟩,
 ⟨(some 28), none, false, .ld none (.t 27)⟩,
 ⟨(some 29), none, false, .mov (.t 1)⟩,
 ⟨(some 30), none, false, .mov (.t 1)⟩,
 ⟨(some 31), none, false, .len false (.t 30)⟩,
 ⟨(some 32), none, false, .bin .sub (.t 31) (.k (.d (.int .i64 1)))⟩,
 ⟨(some 33), none, false, .ia 5 (.t 29) (.t 32)⟩,
 ⟨(some 34), none, false, .ld (some 5) (.t 33)⟩,
 ⟨(some 35), none, false, .callP 78 [(.t 34)]⟩,
 ⟨(some 8), none, false, .mov (.t 28)⟩,
 ⟨(some 9), none, false, .mov (.t 35)⟩])
 (.seq
 (.block 0
 (.seq
 (.reg false [8, 9, 36] [⟨(some 37), none, false, .mov (.t 8)⟩,
 ⟨(some 38), none, false, .bin .eql (.t 37) (.k (.d (.int .i64 0)))⟩,
 ⟨(some 36), none, false, .mov (.t 38)⟩])
 (.cond (.t 36)
 (.seq
 (.reg false [4, 5] [⟨(some 4), none, false, .mov (.k (.d (.int .i64 0)))⟩,
 ⟨(some 5), none, false, .mov (.k (.d (.bool true)))⟩])
 .ret)
 (.seq
 (.reg false [8, 9, 39] [⟨(some 40), none, false, .mov (.t 9)⟩,
 ⟨(some 41), none, false, .bin .eql (.t 40) (.k (.d (.int .i64 0)))⟩,
 ⟨(some 39), none, false, .mov (.t 41)⟩])
 (.cond (.t 39)
 (.seq
 (.reg false [4, 5] [⟨(some 4), none, false, .mov (.k (.d (.int .i64 0)))⟩,
 ⟨(some 5), none, false, .mov (.k (.d (.bool false)))⟩])
 .ret)
 .skip)))))
 (.seq
 (.reg false [4, 5] [⟨(some 42), none, false, .mov (.t 8)⟩,
 ⟨(some 43), none, false, .mov (.t 9)⟩,
 ⟨(some 44), none, true, .call 79 [(.t 42), (.t 43)]⟩,
 ⟨(some 4), none, false, .mov (.t 44)⟩,
 ⟨(some 5), none, false, .mov (.k (.d (.bool true)))⟩])
 .ret))))))
theorem c22 : (Go.Proofs.Try.f22).body.bind (comp prog.P (2, (Go.Proofs.Try.f22).ntmps) lv22) = some m22 := by kernel_rfl
theorem r22 : resOK prog.P (Go.Proofs.Try.f22).results.toList = true := by kernel_rfl

/-- spec.YearsToClear -/
def lv23 : List (Nat × List Nat) := [(0, [0, 1]), (1, [0, 1, 6]), (2, [0, 1, 6, 18]), (3, [4, 5]), (4, [7, 8]), (5, [7, 8, 33]), (6, [4, 5]), (7, [4, 5])]
def m23 : MC :=
  (.seq
 (.reg false [0, 1] [⟨(some 4), none, false, .mov (.k (.d (.int .i64 0)))⟩,
 ⟨(some 5), none, false, .mov (.k (.d (.bool false)))⟩])
 (.seq
 (.reg false [0, 1, 6] [⟨(some 9), none, false, .mov (.t 1)⟩,
 ⟨(some 10), none, false, .len false (.t 9)⟩,
 ⟨(some 6), none, false, .mov (.t 10)⟩])
 (.seq
 (.seq
 (.reg false [0, 1, 6, 18] [⟨(some 11), none, false, .mov (.t 0)⟩,
 ⟨(some 12), none, false, .mov (.t 1)⟩,
 ⟨(some 13), none, true, .call 76 [(.t 11), (.t 12)]⟩,
 ⟨(some 14), none, false, .un .not (.t 13)⟩,
 ⟨(some 15), none, false, .mov (.t 14)⟩,
 ⟨(some 16), (some (15, false)), false, .mov (.t 6)⟩,
 ⟨(some 17), (some (15, false)), false, .bin .eql (.t 16) (.k (.d (.int .i64 0)))⟩,
 ⟨(some 18), none, false, .pick (.t 15) (.k (.d (.bool true))) (.t 17)⟩])
 (.cond (.t 18)
 (.seq
 (.reg false [4, 5] [⟨(some 4), none, false, .mov (.k (.d (.int .i64 0)))⟩,
 ⟨(some 5), none, false, .mov (.k (.d (.bool false)))⟩])
 .ret)
 .skip))
 (.seq
 (.reg true [7, 8] [⟨(some 19), none, false, .mov (.t 0)⟩,
 ⟨(some 20), none, false, .mov (.t 1)⟩,
 ⟨(some 21), none, false, .callP 77 [(.t 19), (.t 20)]⟩,
 ⟨(some 22), none, false, .mov (.t 6)⟩,
 ⟨(some 23), none, false, .bin .sub (.t 22) (.k (.d (.int .i64 1)))⟩,
 ⟨(some 24), none, false, .ia 1 (.t 21) (.t 23)⟩,
 ⟨(some 25), none, false, .ld none (.t 24)⟩,
 ⟨(some 26), none, false, .mov (.t 1)⟩,
 ⟨(some 27), none, false, .mov (.t 6)⟩,
 ⟨(some 28), none, false, .bin .sub (.t 27) (.k (.d (.int .i64 1)))⟩,
 ⟨(some 29), none, false, .ia 5 (.t 26) (.t 28)⟩,
 ⟨(some 30), none, false, .ld (some 5) (.t 29)⟩,
 ⟨(some 31), none, false, .callP 80 [(.t 30)]⟩,
 ⟨(some 7), none, false, .mov (.t 25)⟩,
 ⟨(some 8), none, false, .mov (.t 31)⟩])
 (.seq
 (.seq
 (.reg false [7, 8, 33] [⟨(some 32), none, false, .mov (.t 8)⟩,
 ⟨(some 33), none, false, .bin .eql (.t 32) (.k (.d (.int .i64 0)))⟩])
 (.cond (.t 33)
 (.seq
 (.reg false [4, 5] [⟨(some 34), none, false, .mov (.t 7)⟩,
 ⟨(some 35), none, false, .bin .eql (.t 34) (.k (.d (.int .i64 0)))⟩,
 ⟨(some 4), none, false, .mov (.k (.d (.int .i64 0)))⟩,
 ⟨(some 5), none, false, .mov (.t 35)⟩])
 .ret)
 .skip))
 (.seq
 (.reg false [4, 5] [⟨(some 36), none, false, .mov (.t 7)⟩,
 ⟨(some 37), none, false, .mov (.t 8)⟩,
 ⟨(some 38), none, false, .bin .add (.t 36) (.t 37)⟩,
 ⟨(some 39), none, false, .bin .sub (.t 38) (.k (.d (.int .i64 1)))⟩,
 ⟨(some 40), none, false, .mov (.t 8)⟩,
 ⟨(some 41), none, false, .bin .quo (.t 39) (.t 40)⟩,
 ⟨(some 4), none, false, .mov (.t 41)⟩,
 ⟨(some 5), none, false, .mov (.k (.d (.bool true)))⟩])
 .ret))))))
theorem c23 : (Go.Proofs.Try.f23).body.bind (comp prog.P (2, (Go.Proofs.Try.f23).ntmps) lv23) = some m23 := by kernel_rfl
theorem r23 : resOK prog.P (Go.Proofs.Try.f23).results.toList = true := by kernel_rfl

/-- spec.DrawMissingYears -/
def lv24 : List (Nat × List Nat) := [(0, [0]), (1, [4, 5]), (2, [2, 3])]
def m24 : MC :=
  (.seq
 (.reg false [0] [⟨(some 2), none, false, .mov (.k (.d (.int .i64 0)))⟩,
 ⟨(some 3), none, false, .mov (.k .nil)⟩])
 (.seq
 (.reg false [4, 5] [⟨(some 7), none, false, .mov (.t 0)⟩,
 ⟨(some 8), none, true, .call 72 [(.t 7)]⟩,
 ⟨(some 6), none, false, .mov (.t 8)⟩,
 ⟨(some 9), none, false, .ext (.t 6) 0⟩,
 ⟨(some 10), none, false, .ext (.t 6) 1⟩,
 ⟨(some 4), none, false, .mov (.t 9)⟩,
 ⟨(some 5), none, false, .mov (.t 10)⟩])
 (.seq
 (.reg false [2, 3] [⟨(some 11), none, false, .mov (.t 4)⟩,
 ⟨(some 12), none, false, .mov (.t 5)⟩,
 ⟨(some 2), none, false, .mov (.t 11)⟩,
 ⟨(some 3), none, false, .mov (.t 12)⟩])
 .ret)))
theorem c24 : (Go.Proofs.Try.f24).body.bind (comp prog.P (1, (Go.Proofs.Try.f24).ntmps) lv24) = some m24 := by kernel_rfl
theorem r24 : resOK prog.P (Go.Proofs.Try.f24).results.toList = true := by kernel_rfl

/-- impl.MissingYears -/
def lv25 : List (Nat × List Nat) := [(0, [0, 1]), (1, [1, 12]), (2, [4, 5]), (3, [1, 6]), (4, [1, 6, 7]), (5, [1, 6, 7, 16]), (6, [1, 6, 7]), (7, [1, 6, 7, 8]), (8, [1, 6, 7, 8, 32]), (9, [1, 6, 7, 8]), (10, [1, 6, 7, 8]), (11, [4, 5])]
def m25 : MC :=
  (.seq
 (.reg false [0, 1] [⟨(some 4), none, false, .mov (.k .nil)⟩,
 ⟨(some 5), none, false, .mov (.k (.d (.bool false)))⟩])
 (.seq
 (.seq
 (.reg false [1, 12] [⟨(some 9), none, false, .mov (.t 0)⟩,
 ⟨(some 10), none, false, .mov (.t 1)⟩,
 ⟨(some 11), none, true, .call 81 [(.t 9), (.t 10)]⟩,
 ⟨(some 12), none, false, .un .not (.t 11)⟩])
 (.cond (.t 12)
 (.seq
 (.reg false [4, 5] [⟨(some 4), none, false, .mov (.k .nil)⟩,
 ⟨(some 5), none, false, .mov (.k (.d (.bool false)))⟩])
 .ret)
 .skip))
 (.seq
 (.reg false [1, 6] [⟨(some 6), none, false, .mov (.k .nil)⟩])
 (.seq
 (.seq
 (.reg false [1, 6, 7] [⟨(some 7), none, false, .mov (.k (.d (.int .i64 1)))⟩])
 (.block 0
 (.loop
 (.seq
 (.seq
 (.reg false [1, 6, 7, 16] [⟨(some 13), none, false, .mov (.t 7)⟩,
 ⟨(some 14), none, false, .mov (.t 1)⟩,
 ⟨(some 15), none, false, .len false (.t 14)⟩,
 ⟨(some 16), none, false, .bin .lss (.t 13) (.t 15)⟩])
 (.cond (.t 16)
 .skip
 (.exit 0)))
 (.seq
 (.block 1
 (.seq
 (.reg false [1, 6, 7, 8] [⟨(some 19), none, false, .mov (.t 1)⟩,
 ⟨(some 20), none, false, .mov (.t 7)⟩,
 ⟨(some 21), none, false, .bin .sub (.t 20) (.k (.d (.int .i64 1)))⟩,
 ⟨(some 22), none, false, .ia 5 (.t 19) (.t 21)⟩,
 ⟨(some 23), none, false, .fa 0 0 (.t 22)⟩,
 ⟨(some 24), none, false, .ld none (.t 23)⟩,
 ⟨(some 25), none, false, .bin .add (.t 24) (.k (.d (.int .i64 1)))⟩,
 ⟨(some 8), none, false, .mov (.t 25)⟩])
 (.block 2
 (.loop
 (.seq
 (.seq
 (.reg false [1, 6, 7, 8, 32] [⟨(some 26), none, false, .mov (.t 8)⟩,
 ⟨(some 27), none, false, .mov (.t 1)⟩,
 ⟨(some 28), none, false, .mov (.t 7)⟩,
 ⟨(some 29), none, false, .ia 5 (.t 27) (.t 28)⟩,
 ⟨(some 30), none, false, .fa 0 0 (.t 29)⟩,
 ⟨(some 31), none, false, .ld none (.t 30)⟩,
 ⟨(some 32), none, false, .bin .lss (.t 26) (.t 31)⟩])
 (.cond (.t 32)
 .skip
 (.exit 2)))
 (.seq
 (.block 3
 (.reg false [1, 6, 7, 8] [⟨(some 35), none, false, .mov (.t 6)⟩,
 ⟨(some 36), none, false, .mov (.t 8)⟩,
 ⟨(some 37), none, true, .bs 1 1 (.int .i64 0) [(0, (.t 36))]⟩,
 ⟨(some 38), none, true, .app 1 8 (.t 35) (.t 37)⟩,
 ⟨(some 6), none, false, .mov (.t 38)⟩]))
 (.reg false [1, 6, 7, 8] [⟨(some 33), none, false, .mov (.t 8)⟩,
 ⟨(some 34), none, false, .bin .add (.t 33) (.k (.d (.int .i64 1)))⟩,
 ⟨(some 8), none, false, .mov (.t 34)⟩])))))))
 (.reg false [1, 6, 7] [⟨(some 17), none, false, .mov (.t 7)⟩,
 ⟨(some 18), none, false, .bin .add (.t 17) (.k (.d (.int .i64 1)))⟩,
 ⟨(some 7), none, false, .mov (.t 18)⟩]))))))
 (.seq
 (.reg false [4, 5] [⟨(some 39), none, false, .mov (.t 6)⟩,
 ⟨(some 4), none, false, .mov (.t 39)⟩,
 ⟨(some 5), none, false, .mov (.k (.d (.bool true)))⟩])
 .ret)))))
theorem c25 : (Go.Proofs.Try.f25).body.bind (comp prog.P (2, (Go.Proofs.Try.f25).ntmps) lv25) = some m25 := by kernel_rfl
theorem r25 : resOK prog.P (Go.Proofs.Try.f25).results.toList = true := by kernel_rfl

/-- spec.MissingYears -/
def lv26 : List (Nat × List Nat) := [(0, [0, 1]), (1, [0, 1, 6]), (2, [1, 6, 13]), (3, [4, 5]), (4, [1, 6, 7]), (5, [1, 6, 7, 18]), (6, [1, 6, 7]), (7, [1, 6, 7, 8]), (8, [1, 6, 7, 8, 34]), (9, [1, 6, 7, 8]), (10, [1, 6, 7, 8]), (11, [4, 5])]
def m26 : MC :=
  (.seq
 (.reg false [0, 1] [⟨(some 4), none, false, .mov (.k .nil)⟩,
 ⟨(some 5), none, false, .mov (.k (.d (.bool false)))⟩])
 (.seq
 (.reg false [0, 1, 6] [⟨(some 9), none, true, .bs 1 0 (.int .i64 0) []⟩,
 ⟨(some 6), none, false, .mov (.t 9)⟩])
 (.seq
 (.seq
 (.reg false [1, 6, 13] [⟨(some 10), none, false, .mov (.t 0)⟩,
 ⟨(some 11), none, false, .mov (.t 1)⟩,
 ⟨(some 12), none, true, .call 76 [(.t 10), (.t 11)]⟩,
 ⟨(some 13), none, false, .un .not (.t 12)⟩])
 (.cond (.t 13)
 (.seq
 (.reg false [4, 5] [⟨(some 14), none, false, .mov (.t 6)⟩,
 ⟨(some 4), none, false, .mov (.t 14)⟩,
 ⟨(some 5), none, false, .mov (.k (.d (.bool false)))⟩])
 .ret)
 .skip))
 (.seq
 (.seq
 (.reg false [1, 6, 7] [⟨(some 7), none, false, .mov (.k (.d (.int .i64 1)))⟩])
 (.block 0
 (.loop
 (.seq
 (.seq
 (.reg false [1, 6, 7, 18] [⟨(some 15), none, false, .mov (.t 7)⟩,
 ⟨(some 16), none, false, .mov (.t 1)⟩,
 ⟨(some 17), none, false, .len false (.t 16)⟩,
 ⟨(some 18), none, false, .bin .lss (.t 15) (.t 17)⟩])
 (.cond (.t 18)
 .skip
 (.exit 0)))
 (.seq
 (.block 1
 (.seq
 (.reg false [1, 6, 7, 8] [⟨(some 21), none, false, .mov (.t 1)⟩,
 ⟨(some 22), none, false, .mov (.t 7)⟩,
 ⟨(some 23), none, false, .bin .sub (.t 22) (.k (.d (.int .i64 1)))⟩,
 ⟨(some 24), none, false, .ia 5 (.t 21) (.t 23)⟩,
 ⟨(some 25), none, false, .fa 0 0 (.t 24)⟩,
 ⟨(some 26), none, false, .ld none (.t 25)⟩,
 ⟨(some 27), none, false, .bin .add (.t 26) (.k (.d (.int .i64 1)))⟩,
 ⟨(some 8), none, false, .mov (.t 27)⟩])
 (.block 2
 (.loop
 (.seq
 (.seq
 (.reg false [1, 6, 7, 8, 34] [⟨(some 28), none, false, .mov (.t 8)⟩,
 ⟨(some 29), none, false, .mov (.t 1)⟩,
 ⟨(some 30), none, false, .mov (.t 7)⟩,
 ⟨(some 31), none, false, .ia 5 (.t 29) (.t 30)⟩,
 ⟨(some 32), none, false, .fa 0 0 (.t 31)⟩,
 ⟨(some 33), none, false, .ld none (.t 32)⟩,
 ⟨(some 34), none, false, .bin .lss (.t 28) (.t 33)⟩])
 (.cond (.t 34)
 .skip
 (.exit 2)))
 (.seq
 (.block 3
 (.reg false [1, 6, 7, 8] [⟨(some 37), none, false, .mov (.t 6)⟩,
 ⟨(some 38), none, false, .mov (.t 8)⟩,
 ⟨(some 39), none, true, .bs 1 1 (.int .i64 0) [(0, (.t 38))]⟩,
 ⟨(some 40), none, true, .app 1 8 (.t 37) (.t 39)⟩,
 ⟨(some 6), none, false, .mov (.t 40)⟩]))
 (.reg false [1, 6, 7, 8] [⟨(some 35), none, false, .mov (.t 8)⟩,
 ⟨(some 36), none, false, .bin .add (.t 35) (.k (.d (.int .i64 1)))⟩,
 ⟨(some 8), none, false, .mov (.t 36)⟩])))))))
 (.reg false [1, 6, 7] [⟨(some 19), none, false, .mov (.t 7)⟩,
 ⟨(some 20), none, false, .bin .add (.t 19) (.k (.d (.int .i64 1)))⟩,
 ⟨(some 7), none, false, .mov (.t 20)⟩]))))))
 (.seq
 (.reg false [4, 5] [⟨(some 41), none, false, .mov (.t 6)⟩,
 ⟨(some 4), none, false, .mov (.t 41)⟩,
 ⟨(some 5), none, false, .mov (.k (.d (.bool true)))⟩])
 .ret)))))
theorem c26 : (Go.Proofs.Try.f26).body.bind (comp prog.P (2, (Go.Proofs.Try.f26).ntmps) lv26) = some m26 := by kernel_rfl
theorem r26 : resOK prog.P (Go.Proofs.Try.f26).results.toList = true := by kernel_rfl

/-- laws.rInts -/
def lv27 : List (Nat × List Nat) := [(0, [0, 1]), (1, [0, 1, 10]), (2, [4]), (3, [0, 1, 5]), (4, [0, 1, 5, 14]), (5, [0, 1, 5]), (6, [0, 1, 5, 25]), (7, [4]), (8, [4])]
def m27 : MC :=
  (.seq
 (.reg false [0, 1] [⟨(some 4), none, false, .mov (.k (.d (.bool false)))⟩])
 (.seq
 (.seq
 (.reg false [0, 1, 10] [⟨(some 6), none, false, .mov (.t 0)⟩,
 ⟨(some 7), none, false, .len false (.t 6)⟩,
 ⟨(some 8), none, false, .mov (.t 1)⟩,
 ⟨(some 9), none, false, .len false (.t 8)⟩,
 ⟨(some 10), none, false, .bin .neq (.t 7) (.t 9)⟩])
 (.cond (.t 10)
 (.seq
 (.reg false [4] [⟨(some 4), none, false, .mov (.k (.d (.bool false)))⟩])
 .ret)
 .skip))
 (.seq
 (.seq
 (.reg false [0, 1, 5] [⟨(some 5), none, false, .mov (.k (.d (.int .i64 0)))⟩])
 (.block 0
 (.loop
 (.seq
 (.seq
 (.reg false [0, 1, 5, 14] [⟨(some 11), none, false, .mov (.t 5)⟩,
 ⟨(some 12), none, false, .mov (.t 0)⟩,
 ⟨(some 13), none, false, .len false (.t 12)⟩,
 ⟨(some 14), none, false, .bin .lss (.t 11) (.t 13)⟩])
 (.cond (.t 14)
 .skip
 (.exit 0)))
 (.seq
 (.block 1
 (.seq
 (.reg true [0, 1, 5, 25] [⟨(some 17), none, false, .mov (.t 0)⟩,
 ⟨(some 18), none, false, .mov (.t 5)⟩,
 ⟨(some 19), none, false, .ia 1 (.t 17) (.t 18)⟩,
 ⟨(some 20), none, false, .ld none (.t 19)⟩,
 ⟨(some 21), none, false, .mov (.t 1)⟩,
 ⟨(some 22), none, false, .mov (.t 5)⟩,
 ⟨(some 23), none, false, .ia 1 (.t 21) (.t 22)⟩,
 ⟨(some 24), none, false, .ld none (.t 23)⟩,
 ⟨(some 25), none, false, .bin .neq (.t 20) (.t 24)⟩])
 (.cond (.t 25)
 (.seq
 (.reg false [4] [⟨(some 4), none, false, .mov (.k (.d (.bool false)))⟩])
 .ret)
 .skip)))
 (.reg false [0, 1, 5] [⟨(some 15), none, false, .mov (.t 5)⟩,
 ⟨(some 16), none, false, .bin .add (.t 15) (.k (.d (.int .i64 1)))⟩,
 ⟨(some 5), none, false, .mov (.t 16)⟩]))))))
 (.seq
 (.reg false [4] [⟨(some 4), none, false, .mov (.k (.d (.bool true)))⟩])
 .ret))))
theorem c27 : (Go.Proofs.Try.f27).body.bind (comp prog.P (2, (Go.Proofs.Try.f27).ntmps) lv27) = some m27 := by kernel_rfl
theorem r27 : resOK prog.P (Go.Proofs.Try.f27).results.toList = true := by kernel_rfl

/-- laws.rHas -/
def lv28 : List (Nat × List Nat) := [(0, [0, 1]), (1, [0, 1, 5]), (2, [0, 1, 5, 9]), (3, [0, 1, 5]), (4, [0, 1, 5, 17]), (5, [4]), (6, [4])]
def m28 : MC :=
  (.seq
 (.reg false [0, 1] [⟨(some 4), none, false, .mov (.k (.d (.bool false)))⟩])
 (.seq
 (.seq
 (.reg false [0, 1, 5] [⟨(some 5), none, false, .mov (.k (.d (.int .i64 0)))⟩])
 (.block 0
 (.loop
 (.seq
 (.seq
 (.reg false [0, 1, 5, 9] [⟨(some 6), none, false, .mov (.t 5)⟩,
 ⟨(some 7), none, false, .mov (.t 0)⟩,
 ⟨(some 8), none, false, .len false (.t 7)⟩,
 ⟨(some 9), none, false, .bin .lss (.t 6) (.t 8)⟩])
 (.cond (.t 9)
 .skip
 (.exit 0)))
 (.seq
 (.block 1
 (.seq
 (.reg false [0, 1, 5, 17] [⟨(some 12), none, false, .mov (.t 0)⟩,
 ⟨(some 13), none, false, .mov (.t 5)⟩,
 ⟨(some 14), none, false, .ia 1 (.t 12) (.t 13)⟩,
 ⟨(some 15), none, false, .ld none (.t 14)⟩,
 ⟨(some 16), none, false, .mov (.t 1)⟩,
 ⟨(some 17), none, false, .bin .eql (.t 15) (.t 16)⟩])
 (.cond (.t 17)
 (.seq
 (.reg false [4] [⟨(some 4), none, false, .mov (.k (.d (.bool true)))⟩])
 .ret)
 .skip)))
 (.reg false [0, 1, 5] [⟨(some 10), none, false, .mov (.t 5)⟩,
 ⟨(some 11), none, false, .bin .add (.t 10) (.k (.d (.int .i64 1)))⟩,
 ⟨(some 5), none, false, .mov (.t 11)⟩]))))))
 (.seq
 (.reg false [4] [⟨(some 4), none, false, .mov (.k (.d (.bool false)))⟩])
 .ret)))
theorem c28 : (Go.Proofs.Try.f28).body.bind (comp prog.P (2, (Go.Proofs.Try.f28).ntmps) lv28) = some m28 := by kernel_rfl
theorem r28 : resOK prog.P (Go.Proofs.Try.f28).results.toList = true := by kernel_rfl

/-- spec.DrawDestroyedShare -/
def lv29 : List (Nat × List Nat) := [(0, [0]), (1, [4, 5]), (2, [2, 3])]
def m29 : MC :=
  (.seq
 (.reg false [0] [⟨(some 2), none, false, .mov (.k (.d (.int .i64 0)))⟩,
 ⟨(some 3), none, false, .mov (.k .nil)⟩])
 (.seq
 (.reg false [4, 5] [⟨(some 7), none, false, .mov (.t 0)⟩,
 ⟨(some 8), none, true, .call 72 [(.t 7)]⟩,
 ⟨(some 6), none, false, .mov (.t 8)⟩,
 ⟨(some 9), none, false, .ext (.t 6) 0⟩,
 ⟨(some 10), none, false, .ext (.t 6) 1⟩,
 ⟨(some 4), none, false, .mov (.t 9)⟩,
 ⟨(some 5), none, false, .mov (.t 10)⟩])
 (.seq
 (.reg false [2, 3] [⟨(some 11), none, false, .mov (.t 4)⟩,
 ⟨(some 12), none, false, .mov (.t 5)⟩,
 ⟨(some 2), none, false, .mov (.t 11)⟩,
 ⟨(some 3), none, false, .mov (.t 12)⟩])
 .ret)))
theorem c29 : (Go.Proofs.Try.f29).body.bind (comp prog.P (1, (Go.Proofs.Try.f29).ntmps) lv29) = some m29 := by kernel_rfl
theorem r29 : resOK prog.P (Go.Proofs.Try.f29).results.toList = true := by kernel_rfl

/-- impl.DestroyedShare -/
def lv30 : List (Nat × List Nat) := [(0, [0, 1]), (1, [1, 16]), (2, [4, 5, 6]), (3, [1, 7, 8]), (4, [7, 8, 17, 18, 19]), (5, [7, 8, 17, 18, 19, 20]), (6, [7, 8, 10, 17, 18, 19]), (7, [7, 8, 10, 17, 18, 19]), (8, [7, 8, 17, 18, 19]), (9, [7, 8, 17, 18, 19]), (10, [7, 8, 33]), (11, [4, 5, 6]), (12, [11, 12]), (13, [4, 5, 6])]
def m30 : MC :=
  (.seq
 (.reg false [0, 1] [⟨(some 4), none, false, .mov (.k (.d (.int .i64 0)))⟩,
 ⟨(some 5), none, false, .mov (.k (.d (.int .i64 0)))⟩,
 ⟨(some 6), none, false, .mov (.k (.d (.bool false)))⟩])
 (.seq
 (.seq
 (.reg false [1, 16] [⟨(some 13), none, false, .mov (.t 0)⟩,
 ⟨(some 14), none, false, .mov (.t 1)⟩,
 ⟨(some 15), none, true, .call 81 [(.t 13), (.t 14)]⟩,
 ⟨(some 16), none, false, .un .not (.t 15)⟩])
 (.cond (.t 16)
 (.seq
 (.reg false [4, 5, 6] [⟨(some 4), none, false, .mov (.k (.d (.int .i64 0)))⟩,
 ⟨(some 5), none, false, .mov (.k (.d (.int .i64 0)))⟩,
 ⟨(some 6), none, false, .mov (.k (.d (.bool false)))⟩])
 .ret)
 .skip))
 (.seq
 (.reg false [1, 7, 8] [⟨(some 7), none, false, .mov (.k (.d (.int .i64 0)))⟩,
 ⟨(some 8), none, false, .mov (.k (.d (.int .i64 0)))⟩])
 (.seq
 (.seq
 (.reg false [7, 8, 17, 18, 19] [⟨(some 17), none, false, .mov (.t 1)⟩,
 ⟨(some 18), none, false, .len false (.t 17)⟩,
 ⟨(some 19), none, false, .mov (.k (.d (.int .i64 0)))⟩])
 (.block 0
 (.loop
 (.seq
 (.reg false [7, 8, 17, 18, 19, 20] [⟨(some 20), none, false, .bin .lss (.t 19) (.t 18)⟩])
 (.seq
 (.cond (.t 20)
 .skip
 (.exit 0))
 (.seq
 (.block 1
 (.seq
 (.reg false [7, 8, 10, 17, 18, 19] [⟨(some 21), none, false, .ia 5 (.t 17) (.t 19)⟩,
 ⟨(some 22), none, false, .ld (some 5) (.t 21)⟩,
 ⟨(some 10), none, true, .alloc (.st (.cons (.int .i64 0) (.cons (.int .i64 0) (.cons (.int .i64 0) (.cons (.int .i64 0) (.cons (.int .i64 0) .nil))))))⟩,
 ⟨none, none, true, .st 5 (.t 10) (.t 22)⟩])
 (.seq
 (.reg false [7, 8, 10, 17, 18, 19] [⟨(some 23), none, false, .mov (.t 7)⟩,
 ⟨(some 24), none, false, .fa 3 3 (.t 10)⟩,
 ⟨(some 25), none, false, .ld none (.t 24)⟩,
 ⟨(some 26), none, false, .bin .add (.t 23) (.t 25)⟩,
 ⟨(some 7), none, false, .mov (.t 26)⟩])
 (.reg false [7, 8, 17, 18, 19] [⟨(some 27), none, false, .mov (.t 8)⟩,
 ⟨(some 28), none, false, .ld (some 5) (.t 10)⟩,
 ⟨(some 29), none, true, .call 78 [(.t 28)]⟩,
 ⟨(some 30), none, false, .bin .add (.t 27) (.t 29)⟩,
 ⟨(some 8), none, false, .mov (.t 30)⟩]))))
 (.reg false [7, 8, 17, 18, 19] [⟨(some 31), none, false, .bin .add (.t 19) (.k (.d (.int .i64 1)))⟩,
 ⟨(some 19), none, false, .mov (.t 31)⟩])))))))
 (.seq
 (.seq
 (.reg false [7, 8, 33] [⟨(some 32), none, false, .mov (.t 8)⟩,
 ⟨(some 33), none, false, .bin .eql (.t 32) (.k (.d (.int .i64 0)))⟩])
 (.cond (.t 33)
 (.seq
 (.reg false [4, 5, 6] [⟨(some 4), none, false, .mov (.k (.d (.int .i64 0)))⟩,
 ⟨(some 5), none, false, .mov (.k (.d (.int .i64 0)))⟩,
 ⟨(some 6), none, false, .mov (.k (.d (.bool false)))⟩])
 .ret)
 .skip))
 (.seq
 (.reg false [11, 12] [⟨(some 35), none, false, .mov (.t 7)⟩,
 ⟨(some 36), none, false, .mov (.t 8)⟩,
 ⟨(some 37), none, true, .call 82 [(.t 35), (.t 36)]⟩,
 ⟨(some 34), none, false, .mov (.t 37)⟩,
 ⟨(some 38), none, false, .ext (.t 34) 0⟩,
 ⟨(some 39), none, false, .ext (.t 34) 1⟩,
 ⟨(some 11), none, false, .mov (.t 38)⟩,
 ⟨(some 12), none, false, .mov (.t 39)⟩])
 (.seq
 (.reg false [4, 5, 6] [⟨(some 40), none, false, .mov (.t 11)⟩,
 ⟨(some 41), none, false, .mov (.t 12)⟩,
 ⟨(some 4), none, false, .mov (.t 40)⟩,
 ⟨(some 5), none, false, .mov (.t 41)⟩,
 ⟨(some 6), none, false, .mov (.k (.d (.bool true)))⟩])
 .ret)))))))
theorem c30 : (Go.Proofs.Try.f30).body.bind (comp prog.P (2, (Go.Proofs.Try.f30).ntmps) lv30) = some m30 := by kernel_rfl
theorem r30 : resOK prog.P (Go.Proofs.Try.f30).results.toList = true := by kernel_rfl

/-- spec.DestroyedShare -/
def lv31 : List (Nat × List Nat) := [(0, [0, 1]), (1, [0, 1, 7, 8]), (2, [1, 7, 8, 14]), (3, [1, 7, 8, 9]), (4, [1, 7, 8, 9, 18]), (5, [1, 7, 8, 9]), (6, [1, 7, 8, 9]), (7, [1, 7, 8, 9]), (8, [7, 8, 36]), (9, [4, 5, 6]), (10, [10, 11]), (11, [4, 5, 6])]
def m31 : MC :=
  (.seq
 (.reg false [0, 1] [⟨(some 4), none, false, .mov (.k (.d (.int .i64 0)))⟩,
 ⟨(some 5), none, false, .mov (.k (.d (.int .i64 0)))⟩,
 ⟨(some 6), none, false, .mov (.k (.d (.bool false)))⟩])
 (.seq
 (.reg false [0, 1, 7, 8] [⟨(some 7), none, false, .mov (.k (.d (.int .i64 0)))⟩,
 ⟨(some 8), none, false, .mov (.k (.d (.int .i64 0)))⟩])
 (.seq
 (.seq
 (.reg false [1, 7, 8, 14] [⟨(some 12), none, false, .mov (.t 0)⟩,
 ⟨(some 13), none, false, .mov (.t 1)⟩,
 ⟨(some 14), none, true, .call 76 [(.t 12), (.t 13)]⟩])
 (.cond (.t 14)
 (.seq
 (.reg false [1, 7, 8, 9] [⟨(some 9), none, false, .mov (.k (.d (.int .i64 0)))⟩])
 (.block 0
 (.loop
 (.seq
 (.seq
 (.reg false [1, 7, 8, 9, 18] [⟨(some 15), none, false, .mov (.t 9)⟩,
 ⟨(some 16), none, false, .mov (.t 1)⟩,
 ⟨(some 17), none, false, .len false (.t 16)⟩,
 ⟨(some 18), none, false, .bin .lss (.t 15) (.t 17)⟩])
 (.cond (.t 18)
 .skip
 (.exit 0)))
 (.seq
 (.block 1
 (.seq
 (.reg false [1, 7, 8, 9] [⟨(some 21), none, false, .mov (.t 7)⟩,
 ⟨(some 22), none, false, .mov (.t 1)⟩,
 ⟨(some 23), none, false, .mov (.t 9)⟩,
 ⟨(some 24), none, false, .ia 5 (.t 22) (.t 23)⟩,
 ⟨(some 25), none, false, .fa 3 3 (.t 24)⟩,
 ⟨(some 26), none, false, .ld none (.t 25)⟩,
 ⟨(some 27), none, false, .bin .add (.t 21) (.t 26)⟩,
 ⟨(some 7), none, false, .mov (.t 27)⟩])
 (.reg false [1, 7, 8, 9] [⟨(some 28), none, false, .mov (.t 8)⟩,
 ⟨(some 29), none, false, .mov (.t 1)⟩,
 ⟨(some 30), none, false, .mov (.t 9)⟩,
 ⟨(some 31), none, false, .ia 5 (.t 29) (.t 30)⟩,
 ⟨(some 32), none, false, .ld (some 5) (.t 31)⟩,
 ⟨(some 33), none, true, .call 80 [(.t 32)]⟩,
 ⟨(some 34), none, false, .bin .add (.t 28) (.t 33)⟩,
 ⟨(some 8), none, false, .mov (.t 34)⟩])))
 (.reg false [1, 7, 8, 9] [⟨(some 19), none, false, .mov (.t 9)⟩,
 ⟨(some 20), none, false, .bin .add (.t 19) (.k (.d (.int .i64 1)))⟩,
 ⟨(some 9), none, false, .mov (.t 20)⟩]))))))
 .skip))
 (.seq
 (.seq
 (.reg false [7, 8, 36] [⟨(some 35), none, false, .mov (.t 8)⟩,
 ⟨(some 36), none, false, .bin .eql (.t 35) (.k (.d (.int .i64 0)))⟩])
 (.cond (.t 36)
 (.seq
 (.reg false [4, 5, 6] [⟨(some 4), none, false, .mov (.k (.d (.int .i64 0)))⟩,
 ⟨(some 5), none, false, .mov (.k (.d (.int .i64 0)))⟩,
 ⟨(some 6), none, false, .mov (.k (.d (.bool false)))⟩])
 .ret)
 .skip))
 (.seq
 (.reg false [10, 11] [⟨(some 38), none, false, .mov (.t 7)⟩,
 ⟨(some 39), none, false, .mov (.t 8)⟩,
 ⟨(some 40), none, true, .call 83 [(.t 38), (.t 39)]⟩,
 ⟨(some 37), none, false, .mov (.t 40)⟩,
 ⟨(some 41), none, false, .ext (.t 37) 0⟩,
 ⟨(some 42), none, false, .ext (.t 37) 1⟩,
 ⟨(some 10), none, false, .mov (.t 41)⟩,
 ⟨(some 11), none, false, .mov (.t 42)⟩])
 (.seq
 (.reg false [4, 5, 6] [⟨(some 43), none, false, .mov (.t 10)⟩,
 ⟨(some 44), none, false, .mov (.t 11)⟩,
 ⟨(some 4), none, false, .mov (.t 43)⟩,
 ⟨(some 5), none, false, .mov (.t 44)⟩,
 ⟨(some 6), none, false, .mov (.k (.d (.bool true)))⟩])
 .ret))))))
theorem c31 : (Go.Proofs.Try.f31).body.bind (comp prog.P (2, (Go.Proofs.Try.f31).ntmps) lv31) = some m31 := by kernel_rfl
theorem r31 : resOK prog.P (Go.Proofs.Try.f31).results.toList = true := by kernel_rfl

/-- spec.DrawAreYearRows -/
def lv72 : List (Nat × List Nat) := [(0, [0]), (1, [4]), (2, [5, 6]), (3, [2, 3])]
def m72 : MC :=
  (.seq
 (.reg false [0] [⟨(some 2), none, false, .mov (.k (.d (.int .i64 0)))⟩,
 ⟨(some 3), none, false, .mov (.k .nil)⟩])
 (.seq
 (.reg false [4] [⟨(some 7), none, false, .mov (.t 0)⟩,
 ⟨(some 8), none, true, .bld (.cons (.sl true 1 .nil) (.cons (.int .i64 0) (.cons (.int .u64 0) .nil))) [(0, (.t 7))]⟩,
 ⟨(some 9), none, true, .box (.t 8)⟩,
 ⟨(some 4), none, false, .mov (.t 9)⟩])
 (.seq
 (.reg false [5, 6] [⟨(some 11), none, false, .mov (.t 4)⟩,
 ⟨(some 12), none, true, .call 122 [(.t 11)]⟩,
 ⟨(some 10), none, false, .mov (.t 12)⟩,
 ⟨(some 13), none, false, .ext (.t 10) 0⟩,
 ⟨(some 14), none, false, .ext (.t 10) 1⟩,
 ⟨(some 5), none, false, .mov (.t 13)⟩,
 ⟨(some 6), none, false, .mov (.t 14)⟩])
 (.seq
 (.reg false [2, 3] [⟨(some 15), none, false, .mov (.t 5)⟩,
 ⟨(some 16), none, false, .mov (.t 6)⟩,
 ⟨(some 2), none, false, .mov (.t 15)⟩,
 ⟨(some 3), none, false, .mov (.t 16)⟩])
 .ret))))
theorem c72 : (Go.Proofs.Try.f72).body.bind (comp prog.P (1, (Go.Proofs.Try.f72).ntmps) lv72) = some m72 := by kernel_rfl
theorem r72 : resOK prog.P (Go.Proofs.Try.f72).results.toList = true := by kernel_rfl

/-- impl.restsAfter -/
def lv73 : List (Nat × List Nat) := [(0, [0, 1]), (1, [0, 1, 16]), (2, [4, 5]), (3, [0, 1, 6]), (4, [0, 1, 6, 17, 18, 19]), (5, [0, 1, 6, 17, 18, 19, 20]), (6, [0, 1, 6, 7, 8, 17, 18, 19]), (7, [0, 1, 6, 8, 17, 18, 19, 41]), (8, [4, 5]), (9, [0, 1, 6, 17, 18, 19]), (10, [0, 1, 6, 17, 18, 19, 50]), (11, [4, 5]), (12, [0, 1, 6, 17, 18, 19]), (13, [0, 1, 6, 17, 18, 19]), (14, [4, 5])]
def m73 : MC :=
  (.seq
 (.reg false [0, 1] [⟨(some 4), none, false, .mov (.k .nil)⟩,
 ⟨(some 5), none, false, .mov (.k (.d (.bool false)))⟩])
 (.seq
 (.seq
 (.reg false [0, 1, 16] [⟨(some 9), none, false, .mov (.t 0)⟩,
 ⟨(some 10), none, true, .call 123 [(.t 9)]⟩,
 ⟨(some 11), none, false, .un .not (.t 10)⟩,
 ⟨(some 12), none, false, .mov (.t 11)⟩,
 ⟨(some 13), (some (12, false)), false, .mov (.t 1)⟩,
 ⟨(some 14), (some (12, false)), false, .len false (.t 13)⟩,
 ⟨(some 15), (some (12, false)), false, .bin .gtr (.t 14) (.k (.d (.int .i64 10)))⟩,
 ⟨(some 16), none, false, .pick (.t 12) (.k (.d (.bool true))) (.t 15)⟩])
 (.cond (.t 16)
 (.seq
 (.reg false [4, 5] [⟨(some 4), none, false, .mov (.k .nil)⟩,
 ⟨(some 5), none, false, .mov (.k (.d (.bool false)))⟩])
 .ret)
 .skip))
 (.seq
 (.reg false [0, 1, 6] [⟨(some 6), none, false, .mov (.k .nil)⟩])
 (.seq
 (.seq
 (.reg false [0, 1, 6, 17, 18, 19] [⟨(some 17), none, false, .mov (.t 1)⟩,
 ⟨(some 18), none, false, .len false (.t 17)⟩,
 ⟨(some 19), none, false, .mov (.k (.d (.int .i64 0)))⟩])
 (.block 0
 (.loop
 (.seq
 (.reg false [0, 1, 6, 17, 18, 19, 20] [⟨(some 20), none, false, .bin .lss (.t 19) (.t 18)⟩])
 (.seq
 (.cond (.t 20)
 .skip
 (.exit 0))
 (.seq
 (.block 1
 (.seq
 (.reg false [0, 1, 6, 7, 8, 17, 18, 19] [⟨(some 21), none, false, .mov (.t 19)⟩,
 ⟨(some 22), none, false, .ia 5 (.t 17) (.t 19)⟩,
 ⟨(some 23), none, false, .ld (some 5) (.t 22)⟩,
 ⟨(some 8), none, true, .alloc (.st (.cons (.int .i64 0) (.cons (.int .i64 0) (.cons (.int .i64 0) (.cons (.int .i64 0) (.cons (.int .i64 0) .nil))))))⟩,
 ⟨(some 7), none, false, .mov (.t 21)⟩,
 ⟨none, none, true, .st 5 (.t 8) (.t 23)⟩])
 (.seq
 (.seq
 (.reg true [0, 1, 6, 8, 17, 18, 19, 41] [⟨(some 24), none, false, .ld (some 5) (.t 8)⟩,
 ⟨(some 25), none, false, .callP 124 [(.t 24)]⟩,
 ⟨(some 26), none, false, .un .not (.t 25)⟩,
 ⟨(some 27), none, false, .mov (.t 26)⟩,
 ⟨(some 28), (some (27, false)), false, .mov (.t 7)⟩,
 ⟨(some 29), (some (27, false)), false, .bin .gtr (.t 28) (.k (.d (.int .i64 0)))⟩,
 ⟨(some 30), (some (27, false)), false, .mov (.t 29)⟩,
 ⟨(some 31), (some (30, true)), false, .mov (.t 1)⟩,
 ⟨(some 32), (some (30, true)), false, .mov (.t 7)⟩,
 ⟨(some 33), (some (30, true)), false, .bin .sub (.t 32) (.k (.d (.int .i64 1)))⟩,
 ⟨(some 34), (some (30, true)), false, .ia 5 (.t 31) (.t 33)⟩,
 ⟨(some 35), (some (30, true)), false, .fa 0 0 (.t 34)⟩,
 ⟨(some 36), (some (30, true)), false, .ld none (.t 35)⟩,
 ⟨(some 37), (some (30, true)), false, .fa 0 0 (.t 8)⟩,
 ⟨(some 38), (some (30, true)), false, .ld none (.t 37)⟩,
 ⟨(some 39), (some (30, true)), false, .bin .geq (.t 36) (.t 38)⟩,
 ⟨(some 40), (some (27, false)), false, .pick (.t 30) (.t 39) (.k (.d (.bool false)))⟩,
 ⟨(some 41), none, false, .pick (.t 27) (.k (.d (.bool true))) (.t 40)⟩])
 (.cond (.t 41)
 (.seq
 (.reg false [4, 5] [⟨(some 4), none, false, .mov (.k .nil)⟩,
 ⟨(some 5), none, false, .mov (.k (.d (.bool false)))⟩])
 .ret)
 .skip))
 (.seq
 (.reg true [0, 1, 6, 17, 18, 19] [⟨(some 42), none, false, .mov (.t 0)⟩,
 ⟨(some 43), none, false, .fa 1 1 (.t 8)⟩,
 ⟨(some 44), none, false, .ld none (.t 43)⟩,
 ⟨(some 45), none, false, .ld (some 5) (.t 8)⟩,
 ⟨(some 46), none, false, .callP 78 [(.t 45)]⟩,
 ⟨(some 47), none, false, .bin .sub (.t 44) (.t 46)⟩,
 ⟨(some 48), none, false, .bin .add (.t 42) (.t 47)⟩,
 ⟨(some 0), none, false, .mov (.t 48)⟩])
 (.seq
 (.seq
 (.reg false [0, 1, 6, 17, 18, 19, 50] [⟨(some 49), none, false, .mov (.t 0)⟩,
 ⟨(some 50), none, false, .bin .lss (.t 49) (.k (.d (.int .i64 0)))⟩])
 (.cond (.t 50)
 (.seq
 (.reg false [4, 5] [⟨(some 4), none, false, .mov (.k .nil)⟩,
 ⟨(some 5), none, false, .mov (.k (.d (.bool false)))⟩])
 .ret)
 .skip))
 (.reg false [0, 1, 6, 17, 18, 19] [⟨(some 51), none, false, .mov (.t 6)⟩,
 ⟨(some 52), none, false, .mov (.t 0)⟩,
 ⟨(some 53), none, true, .bs 1 1 (.int .i64 0) [(0, (.t 52))]⟩,
 ⟨(some 54), none, true, .app 1 8 (.t 51) (.t 53)⟩,
 ⟨(some 6), none, false, .mov (.t 54)⟩]))))))
 (.reg false [0, 1, 6, 17, 18, 19] [⟨(some 55), none, false, .bin .add (.t 19) (.k (.d (.int .i64 1)))⟩,
 ⟨(some 19), none, false, .mov (.t 55)⟩])))))))
 (.seq
 (.reg false [4, 5] [⟨(some 56), none, false, .mov (.t 6)⟩,
 ⟨(some 4), none, false, .mov (.t 56)⟩,
 ⟨(some 5), none, false, .mov (.k (.d (.bool true)))⟩])
 .ret)))))
theorem c73 : (Go.Proofs.Try.f73).body.bind (comp prog.P (0, (Go.Proofs.Try.f73).ntmps) lv73) = some m73 := by kernel_rfl
theorem r73 : resOK prog.P (Go.Proofs.Try.f73).results.toList = true := by kernel_rfl

/-- slices.Max[[]int,int] -/
def lv74 : List (Nat × List Nat) := [(0, [0]), (1, [0, 7]), (2, [0]), (3, [0, 3]), (4, [0, 3, 4]), (5, [0, 3, 4, 15]), (6, [0, 3, 4]), (7, [0, 3, 4]), (8, [2])]
def m74 : MC :=
  (.seq
 (.reg false [0] [⟨(some 2), none, false, .mov (.k (.d (.int .i64 0)))⟩])
 (.seq
 (.seq
 (.reg false [0, 7] [⟨(some 5), none, false, .mov (.t 0)⟩,
 ⟨(some 6), none, false, .len false (.t 5)⟩,
 ⟨(some 7), none, false, .bin .lss (.t 6) (.k (.d (.int .i64 1)))⟩])
 (.cond (.t 7)
 .hole
 .skip))
 (.seq
 (.reg false [0, 3] [⟨(some 9), none, false, .mov (.t 0)⟩,
 ⟨(some 10), none, false, .ia 1 (.t 9) (.k (.d (.int .i64 0)))⟩,
 ⟨(some 11), none, false, .ld none (.t 10)⟩,
 ⟨(some 3), none, false, .mov (.t 11)⟩])
 (.seq
 (.seq
 (.reg false [0, 3, 4] [⟨(some 4), none, false, .mov (.k (.d (.int .i64 1)))⟩])
 (.block 0
 (.loop
 (.seq
 (.seq
 (.reg false [0, 3, 4, 15] [⟨(some 12), none, false, .mov (.t 4)⟩,
 ⟨(some 13), none, false, .mov (.t 0)⟩,
 ⟨(some 14), none, false, .len false (.t 13)⟩,
 ⟨(some 15), none, false, .bin .lss (.t 12) (.t 14)⟩])
 (.cond (.t 15)
 .skip
 (.exit 0)))
 (.seq
 (.block 1
 (.reg false [0, 3, 4] [⟨(some 18), none, false, .mov (.t 3)⟩,
 ⟨(some 19), none, false, .mov (.t 0)⟩,
 ⟨(some 20), none, false, .mov (.t 4)⟩,
 ⟨(some 21), none, false, .ia 1 (.t 19) (.t 20)⟩,
 ⟨(some 22), none, false, .ld none (.t 21)⟩,
 ⟨(some 23), none, false, .mx true (.t 18) (.t 22)⟩,
 ⟨(some 3), none, false, .mov (.t 23)⟩]))
 (.reg false [0, 3, 4] [⟨(some 16), none, false, .mov (.t 4)⟩,
 ⟨(some 17), none, false, .bin .add (.t 16) (.k (.d (.int .i64 1)))⟩,
 ⟨(some 4), none, false, .mov (.t 17)⟩]))))))
 (.seq
 (.reg false [2] [⟨(some 24), none, false, .mov (.t 3)⟩,
 ⟨(some 2), none, false, .mov (.t 24)⟩])
 .ret)))))
theorem c74 : (Go.Proofs.Try.f74).body.bind (comp prog.P (1, (Go.Proofs.Try.f74).ntmps) lv74) = some m74 := by kernel_rfl
theorem r74 : resOK prog.P (Go.Proofs.Try.f74).results.toList = true := by kernel_rfl

end Go.Pe.Try
