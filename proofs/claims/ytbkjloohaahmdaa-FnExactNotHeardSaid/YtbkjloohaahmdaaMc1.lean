/-
The compact code of the functions that the law reaches, printed by gen.py, each with the proof that the machine's code is compiled to it.
-/
import Derived.Test.YtbkjloohaahmdaaPeC
import Derived.Test.YtbkjloohaahmdaaProg
import Derived.KernelRfl
set_option maxRecDepth 100000
namespace Go.Pe.Try
open Go.Pe

/-- the program; of its start-up memory nothing is asked. -/
noncomputable def prog : PG := ⟨Go.Proofs.Try.prog, fun _ => True, fun _ _ _ _ h => h⟩

theorem sz66 : sizeOfT prog.P 66 = some 6 := by kernel_rfl

/-- laws.FnExactNotHeard -/
def lv3 : List (Nat × List Nat) := [(0, [0, 1]), (1, [0, 1, 5]), (2, [0, 1, 5]), (3, [0, 1, 20]), (4, [4]), (5, [0, 1, 6, 7]), (6, [0, 1, 6, 7, 8]), (7, [0, 1, 6, 7, 8, 9, 10]), (8, [0, 1, 6, 7, 8, 9, 10, 44]), (9, [4]), (10, [0, 1, 6, 7, 8, 9, 10, 49]), (11, [4]), (12, [0, 1, 6, 7, 8, 9, 10, 11]), (13, [0, 1, 6, 7, 9, 10, 11]), (14, [0, 1, 6, 7, 9, 65]), (15, [4]), (16, [0, 1, 6, 7, 9, 12]), (17, [0, 1, 6, 7, 9, 12]), (18, [0, 1, 6, 7, 9, 12, 13]), (19, [0, 1, 6, 7, 9, 12, 13]), (20, [0, 1, 6, 7, 9, 12, 13, 73]), (21, [4]), (22, [0, 1, 6, 7, 9, 12, 76]), (23, [4]), (24, [6, 7, 9, 12, 14, 15]), (25, [9, 12, 92]), (26, [4]), (27, [9, 12, 13]), (28, [12, 13]), (29, [12, 13, 97]), (30, [4]), (31, [100]), (32, [4]), (33, [4])]
def m3 : MC :=
  (.seq
 (.reg false [0, 1] [⟨(some 4), none, false, .mov (.k (.d (.bool false)))⟩])
 (.seq
 (.reg false [0, 1, 5] [⟨(some 5), none, false, .mov (.k (.d (.int .i64 1048576)))⟩])
 (.seq
 (.reg false [0, 1, 5] [⟨(some 16), none, false, .mov (.t 0)⟩,
 ⟨(some 17), none, false, .mov (.t 5)⟩,
 ⟨(some 18), none, true, .call 7 [(.t 16), (.t 17)]⟩,
 ⟨(some 5), none, false, .mov (.t 18)⟩])
 (.seq
 (.seq
 (.reg false [0, 1, 20] [⟨(some 19), none, false, .mov (.t 5)⟩,
 ⟨(some 20), none, false, .bin .lss (.t 19) (.k (.d (.int .i64 0)))⟩])
 (.cond (.t 20)
 (.seq
 (.reg false [4] [⟨(some 4), none, false, .mov (.k (.d (.bool true)))⟩])
 .ret)
 .skip))
 (.seq
 (.reg false [0, 1, 6, 7] [⟨(some 22), none, false, .mov (.t 0)⟩,
 ⟨(some 23), none, true, .call 9 [(.t 22)]⟩,
 ⟨(some 24), none, false, .mov (.t 1)⟩,
 ⟨(some 25), none, true, .call 8 [(.t 23), (.t 24)]⟩,
 ⟨(some 21), none, false, .mov (.t 25)⟩,
 ⟨(some 26), none, false, .ext (.t 21) 0⟩,
 ⟨(some 27), none, false, .ext (.t 21) 1⟩,
 ⟨(some 6), none, false, .mov (.t 26)⟩,
 ⟨(some 7), none, false, .mov (.t 27)⟩])
 (.seq
 (.reg false [0, 1, 6, 7, 8] [⟨(some 28), none, false, .mov (.t 0)⟩,
 ⟨(some 29), none, true, .call 9 [(.t 28)]⟩,
 ⟨(some 8), none, false, .mov (.t 29)⟩])
 (.seq
 (.reg false [0, 1, 6, 7, 8, 9, 10] [⟨(some 31), none, false, .mov (.t 8)⟩,
 ⟨(some 32), none, false, .mov (.t 1)⟩,
 ⟨(some 33), none, true, .call 10 [(.t 31), (.t 32)]⟩,
 ⟨(some 30), none, false, .mov (.t 33)⟩,
 ⟨(some 34), none, false, .ext (.t 30) 0⟩,
 ⟨(some 35), none, false, .ext (.t 30) 1⟩,
 ⟨(some 9), none, false, .mov (.t 34)⟩,
 ⟨(some 10), none, false, .mov (.t 35)⟩])
 (.seq
 (.seq
 (.reg false [0, 1, 6, 7, 8, 9, 10, 44] [⟨(some 36), none, false, .mov (.t 9)⟩,
 ⟨(some 37), none, false, .mov (.t 6)⟩,
 ⟨(some 38), none, true, .call 11 [(.t 36), (.t 37)]⟩,
 ⟨(some 39), none, false, .un .not (.t 38)⟩,
 ⟨(some 40), none, false, .mov (.t 39)⟩,
 ⟨(some 41), (some (40, false)), false, .mov (.t 10)⟩,
 ⟨(some 42), (some (40, false)), false, .mov (.t 7)⟩,
 ⟨(some 43), (some (40, false)), false, .bb .neq (.t 41) (.t 42)⟩,
 ⟨(some 44), none, false, .pick (.t 40) (.k (.d (.bool true))) (.t 43)⟩])
 (.cond (.t 44)
 (.seq
 (.reg false [4] [⟨(some 4), none, false, .mov (.k (.d (.bool false)))⟩])
 .ret)
 .skip))
 (.seq
 (.seq
 (.reg false [0, 1, 6, 7, 8, 9, 10, 49] [⟨(some 45), none, false, .mov (.t 8)⟩,
 ⟨(some 46), none, false, .mov (.t 0)⟩,
 ⟨(some 47), none, true, .call 9 [(.t 46)]⟩,
 ⟨(some 48), none, true, .call 12 [(.t 45), (.t 47)]⟩,
 ⟨(some 49), none, false, .un .not (.t 48)⟩])
 (.cond (.t 49)
 (.seq
 (.reg false [4] [⟨(some 4), none, false, .mov (.k (.d (.bool false)))⟩])
 .ret)
 .skip))
 (.seq
 (.reg false [0, 1, 6, 7, 8, 9, 10, 11] [⟨(some 11), none, false, .mov (.k (.d (.int .i64 1)))⟩])
 (.seq
 (.reg false [0, 1, 6, 7, 9, 10, 11] [⟨(some 50), none, false, .mov (.t 8)⟩,
 ⟨(some 51), none, false, .mov (.t 11)⟩,
 ⟨(some 52), none, true, .call 13 [(.t 50), (.t 51)]⟩,
 ⟨(some 11), none, false, .mov (.t 52)⟩])
 (.seq
 (.seq
 (.reg false [0, 1, 6, 7, 9, 65] [⟨(some 53), none, false, .mov (.t 11)⟩,
 ⟨(some 54), none, false, .bin .lss (.t 53) (.k (.d (.int .i64 0)))⟩,
 ⟨(some 55), none, false, .mov (.t 54)⟩,
 ⟨(some 56), (some (55, false)), false, .mov (.t 9)⟩,
 ⟨(some 57), (some (55, false)), false, .mov (.t 6)⟩,
 ⟨(some 58), (some (55, false)), true, .call 11 [(.t 56), (.t 57)]⟩,
 ⟨(some 59), (some (55, false)), false, .un .not (.t 58)⟩,
 ⟨(some 60), none, false, .pick (.t 55) (.k (.d (.bool true))) (.t 59)⟩,
 ⟨(some 61), none, false, .mov (.t 60)⟩,
 ⟨(some 62), (some (61, false)), false, .mov (.t 10)⟩,
 ⟨(some 63), (some (61, false)), false, .mov (.t 7)⟩,
 ⟨(some 64), (some (61, false)), false, .bb .neq (.t 62) (.t 63)⟩,
 ⟨(some 65), none, false, .pick (.t 61) (.k (.d (.bool true))) (.t 64)⟩])
 (.cond (.t 65)
 (.seq
 (.reg false [4] [⟨(some 4), none, false, .mov (.k (.d (.bool false)))⟩])
 .ret)
 .skip))
 (.seq
 (.reg false [0, 1, 6, 7, 9, 12] [⟨(some 12), none, false, .mov (.k (.d (.int .i64 1)))⟩])
 (.seq
 (.reg false [0, 1, 6, 7, 9, 12] [⟨(some 66), none, false, .mov (.t 9)⟩,
 ⟨(some 67), none, false, .mov (.t 12)⟩,
 ⟨(some 68), none, true, .call 14 [(.t 66), (.t 67)]⟩,
 ⟨(some 12), none, false, .mov (.t 68)⟩])
 (.seq
 (.reg false [0, 1, 6, 7, 9, 12, 13] [⟨(some 13), none, false, .mov (.k (.d (.int .i64 1)))⟩])
 (.seq
 (.reg false [0, 1, 6, 7, 9, 12, 13] [⟨(some 69), none, false, .mov (.t 9)⟩,
 ⟨(some 70), none, false, .mov (.t 13)⟩,
 ⟨(some 71), none, true, .call 15 [(.t 69), (.t 70)]⟩,
 ⟨(some 13), none, false, .mov (.t 71)⟩])
 (.seq
 (.seq
 (.reg false [0, 1, 6, 7, 9, 12, 13, 73] [⟨(some 72), none, false, .mov (.t 13)⟩,
 ⟨(some 73), none, false, .bin .lss (.t 72) (.k (.d (.int .i64 0)))⟩])
 (.cond (.t 73)
 (.seq
 (.reg false [4] [⟨(some 4), none, false, .mov (.k (.d (.bool false)))⟩])
 .ret)
 .skip))
 (.seq
 (.seq
 (.reg false [0, 1, 6, 7, 9, 12, 76] [⟨(some 74), none, false, .mov (.t 13)⟩,
 ⟨(some 75), none, false, .mov (.t 12)⟩,
 ⟨(some 76), none, false, .bin .neq (.t 74) (.t 75)⟩])
 (.cond (.t 76)
 (.seq
 (.reg false [4] [⟨(some 4), none, false, .mov (.k (.d (.bool false)))⟩])
 .ret)
 .skip))
 (.seq
 (.reg false [6, 7, 9, 12, 14, 15] [⟨(some 78), none, false, .mov (.t 0)⟩,
 ⟨(some 79), none, true, .call 9 [(.t 78)]⟩,
 ⟨(some 80), none, false, .mov (.t 1)⟩,
 ⟨(some 81), none, true, .call 10 [(.t 79), (.t 80)]⟩,
 ⟨(some 77), none, false, .mov (.t 81)⟩,
 ⟨(some 82), none, false, .ext (.t 77) 0⟩,
 ⟨(some 83), none, false, .ext (.t 77) 1⟩,
 ⟨(some 14), none, false, .mov (.t 82)⟩,
 ⟨(some 15), none, false, .mov (.t 83)⟩])
 (.seq
 (.seq
 (.reg false [9, 12, 92] [⟨(some 84), none, false, .mov (.t 14)⟩,
 ⟨(some 85), none, false, .mov (.t 6)⟩,
 ⟨(some 86), none, true, .call 11 [(.t 84), (.t 85)]⟩,
 ⟨(some 87), none, false, .un .not (.t 86)⟩,
 ⟨(some 88), none, false, .mov (.t 87)⟩,
 ⟨(some 89), (some (88, false)), false, .mov (.t 15)⟩,
 ⟨(some 90), (some (88, false)), false, .mov (.t 7)⟩,
 ⟨(some 91), (some (88, false)), false, .bb .neq (.t 89) (.t 90)⟩,
 ⟨(some 92), none, false, .pick (.t 88) (.k (.d (.bool true))) (.t 91)⟩])
 (.cond (.t 92)
 (.seq
 (.reg false [4] [⟨(some 4), none, false, .mov (.k (.d (.bool false)))⟩])
 .ret)
 .skip))
 (.seq
 (.reg false [9, 12, 13] [⟨(some 13), none, false, .mov (.k (.d (.int .i64 1)))⟩])
 (.seq
 (.reg false [12, 13] [⟨(some 93), none, false, .mov (.t 9)⟩,
 ⟨(some 94), none, false, .mov (.t 13)⟩,
 ⟨(some 95), none, true, .call 15 [(.t 93), (.t 94)]⟩,
 ⟨(some 13), none, false, .mov (.t 95)⟩])
 (.seq
 (.seq
 (.reg false [12, 13, 97] [⟨(some 96), none, false, .mov (.t 13)⟩,
 ⟨(some 97), none, false, .bin .lss (.t 96) (.k (.d (.int .i64 0)))⟩])
 (.cond (.t 97)
 (.seq
 (.reg false [4] [⟨(some 4), none, false, .mov (.k (.d (.bool false)))⟩])
 .ret)
 .skip))
 (.seq
 (.seq
 (.reg false [100] [⟨(some 98), none, false, .mov (.t 13)⟩,
 ⟨(some 99), none, false, .mov (.t 12)⟩,
 ⟨(some 100), none, false, .bin .neq (.t 98) (.t 99)⟩])
 (.cond (.t 100)
 (.seq
 (.reg false [4] [⟨(some 4), none, false, .mov (.k (.d (.bool false)))⟩])
 .ret)
 .skip))
 (.seq
 (.reg false [4] [⟨(some 4), none, false, .mov (.k (.d (.bool true)))⟩])
 .ret)))))))))))))))))))))))))
theorem c3 : (Go.Proofs.Try.f3).body.bind (comp prog.P (2, (Go.Proofs.Try.f3).ntmps) lv3) = some m3 := by kernel_rfl
theorem r3 : resOK prog.P (Go.Proofs.Try.f3).results.toList = true := by kernel_rfl

/-- laws.szAppealS -/
def lv7 : List (Nat × List Nat) := [(0, [0, 1]), (1, [0, 1]), (2, [0, 1, 11]), (3, [4]), (4, [0, 1, 5]), (5, [0, 1, 5, 15]), (6, [0, 1, 5]), (7, [0, 1, 5]), (8, [0, 1, 5, 25]), (9, [4]), (10, [4])]
def m7 : MC :=
  (.seq
 (.reg false [0, 1] [⟨(some 4), none, false, .mov (.k (.d (.int .i64 0)))⟩])
 (.seq
 (.reg false [0, 1] [⟨(some 6), none, false, .mov (.t 1)⟩,
 ⟨(some 7), none, false, .mov (.t 0)⟩,
 ⟨(some 8), none, false, .len false (.t 7)⟩,
 ⟨(some 9), none, false, .bin .sub (.t 6) (.t 8)⟩,
 ⟨(some 1), none, false, .mov (.t 9)⟩])
 (.seq
 (.seq
 (.reg false [0, 1, 11] [⟨(some 10), none, false, .mov (.t 1)⟩,
 ⟨(some 11), none, false, .bin .lss (.t 10) (.k (.d (.int .i64 0)))⟩])
 (.cond (.t 11)
 (.seq
 (.reg false [4] [⟨(some 4), none, false, .mov (.k (.d (.int .i64 (-1))))⟩])
 .ret)
 .skip))
 (.seq
 (.seq
 (.reg false [0, 1, 5] [⟨(some 5), none, false, .mov (.k (.d (.int .i64 0)))⟩])
 (.block 0
 (.loop
 (.seq
 (.seq
 (.reg false [0, 1, 5, 15] [⟨(some 12), none, false, .mov (.t 5)⟩,
 ⟨(some 13), none, false, .mov (.t 0)⟩,
 ⟨(some 14), none, false, .len false (.t 13)⟩,
 ⟨(some 15), none, false, .bin .lss (.t 12) (.t 14)⟩])
 (.cond (.t 15)
 .skip
 (.exit 0)))
 (.seq
 (.block 1
 (.seq
 (.reg false [0, 1, 5] [⟨(some 18), none, false, .mov (.t 0)⟩,
 ⟨(some 19), none, false, .mov (.t 5)⟩,
 ⟨(some 20), none, false, .ia 6 (.t 18) (.t 19)⟩,
 ⟨(some 21), none, false, .ld (some 6) (.t 20)⟩,
 ⟨(some 22), none, false, .mov (.t 1)⟩,
 ⟨(some 23), none, true, .call 61 [(.t 21), (.t 22)]⟩,
 ⟨(some 1), none, false, .mov (.t 23)⟩])
 (.seq
 (.reg false [0, 1, 5, 25] [⟨(some 24), none, false, .mov (.t 1)⟩,
 ⟨(some 25), none, false, .bin .lss (.t 24) (.k (.d (.int .i64 0)))⟩])
 (.cond (.t 25)
 (.seq
 (.reg false [4] [⟨(some 4), none, false, .mov (.k (.d (.int .i64 (-1))))⟩])
 .ret)
 .skip))))
 (.reg false [0, 1, 5] [⟨(some 16), none, false, .mov (.t 5)⟩,
 ⟨(some 17), none, false, .bin .add (.t 16) (.k (.d (.int .i64 1)))⟩,
 ⟨(some 5), none, false, .mov (.t 17)⟩]))))))
 (.seq
 (.reg false [4] [⟨(some 26), none, false, .mov (.t 1)⟩,
 ⟨(some 4), none, false, .mov (.t 26)⟩])
 .ret)))))
theorem c7 : (Go.Proofs.Try.f7).body.bind (comp prog.P (1, (Go.Proofs.Try.f7).ntmps) lv7) = some m7 := by kernel_rfl
theorem r7 : resOK prog.P (Go.Proofs.Try.f7).results.toList = true := by kernel_rfl

/-- spec.NotHeard -/
def lv8 : List (Nat × List Nat) := [(0, [0, 1]), (1, [0, 1, 6]), (2, [0, 6, 7]), (3, [0, 6, 7, 19]), (4, [4, 5]), (5, [0, 6, 7, 8]), (6, [0, 6, 7, 8, 28]), (7, [0, 6, 7, 8]), (8, [0, 6, 7, 8, 45]), (9, [0, 6, 7, 8]), (10, [4, 5])]
def m8 : MC :=
  (.seq
 (.reg false [0, 1] [⟨(some 4), none, false, .mov (.k .nil)⟩,
 ⟨(some 5), none, false, .mov (.k (.d (.bool false)))⟩])
 (.seq
 (.reg false [0, 1, 6] [⟨(some 9), none, true, .bs 1 0 (.int .i64 0) []⟩,
 ⟨(some 6), none, false, .mov (.t 9)⟩])
 (.seq
 (.reg false [0, 6, 7] [⟨(some 10), none, false, .mov (.t 0)⟩,
 ⟨(some 11), none, false, .mov (.t 1)⟩,
 ⟨(some 12), none, true, .call 62 [(.t 10), (.t 11)]⟩,
 ⟨(some 7), none, false, .mov (.t 12)⟩])
 (.seq
 (.seq
 (.reg false [0, 6, 7, 19] [⟨(some 13), none, false, .mov (.t 0)⟩,
 ⟨(some 14), none, true, .call 63 [(.t 13)]⟩,
 ⟨(some 15), none, false, .un .not (.t 14)⟩,
 ⟨(some 16), none, false, .mov (.t 15)⟩,
 ⟨(some 17), (some (16, false)), false, .mov (.t 7)⟩,
 ⟨(some 18), (some (16, false)), false, .bin .lss (.t 17) (.k (.d (.int .i64 0)))⟩,
 ⟨(some 19), none, false, .pick (.t 16) (.k (.d (.bool true))) (.t 18)⟩])
 (.cond (.t 19)
 (.seq
 (.reg false [4, 5] [⟨(some 20), none, false, .mov (.t 6)⟩,
 ⟨(some 4), none, false, .mov (.t 20)⟩,
 ⟨(some 5), none, false, .mov (.k (.d (.bool false)))⟩])
 .ret)
 .skip))
 (.seq
 (.seq
 (.reg false [0, 6, 7, 8] [⟨(some 8), none, false, .mov (.k (.d (.int .i64 0)))⟩])
 (.block 0
 (.loop
 (.seq
 (.seq
 (.reg false [0, 6, 7, 8, 28] [⟨(some 21), none, false, .mov (.t 8)⟩,
 ⟨(some 22), none, false, .mov (.t 0)⟩,
 ⟨(some 23), none, false, .mov (.t 7)⟩,
 ⟨(some 24), none, false, .ia 6 (.t 22) (.t 23)⟩,
 ⟨(some 25), none, false, .fa 3 3 (.t 24)⟩,
 ⟨(some 26), none, false, .ld none (.t 25)⟩,
 ⟨(some 27), none, false, .len false (.t 26)⟩,
 ⟨(some 28), none, false, .bin .lss (.t 21) (.t 27)⟩])
 (.cond (.t 28)
 .skip
 (.exit 0)))
 (.seq
 (.block 1
 (.seq
 (.reg true [0, 6, 7, 8, 45] [⟨(some 31), none, false, .mov (.t 0)⟩,
 ⟨(some 32), none, false, .mov (.t 7)⟩,
 ⟨(some 33), none, false, .ia 6 (.t 31) (.t 32)⟩,
 ⟨(some 34), none, false, .fa 4 4 (.t 33)⟩,
 ⟨(some 35), none, false, .ld none (.t 34)⟩,
 ⟨(some 36), none, false, .mov (.t 0)⟩,
 ⟨(some 37), none, false, .mov (.t 7)⟩,
 ⟨(some 38), none, false, .ia 6 (.t 36) (.t 37)⟩,
 ⟨(some 39), none, false, .fa 3 3 (.t 38)⟩,
 ⟨(some 40), none, false, .ld none (.t 39)⟩,
 ⟨(some 41), none, false, .mov (.t 8)⟩,
 ⟨(some 42), none, false, .ia 1 (.t 40) (.t 41)⟩,
 ⟨(some 43), none, false, .ld none (.t 42)⟩,
 ⟨(some 44), none, false, .callP 64 [(.t 35), (.t 43)]⟩,
 ⟨(some 45), none, false, .un .not (.t 44)⟩])
 (.cond (.t 45)
 (.reg false [0, 6, 7, 8] [⟨(some 46), none, false, .mov (.t 6)⟩,
 ⟨(some 47), none, false, .mov (.t 0)⟩,
 ⟨(some 48), none, false, .mov (.t 7)⟩,
 ⟨(some 49), none, false, .ia 6 (.t 47) (.t 48)⟩,
 ⟨(some 50), none, false, .fa 3 3 (.t 49)⟩,
 ⟨(some 51), none, false, .ld none (.t 50)⟩,
 ⟨(some 52), none, false, .mov (.t 8)⟩,
 ⟨(some 53), none, false, .ia 1 (.t 51) (.t 52)⟩,
 ⟨(some 54), none, false, .ld none (.t 53)⟩,
 ⟨(some 55), none, true, .bs 1 1 (.int .i64 0) [(0, (.t 54))]⟩,
 ⟨(some 56), none, true, .app 1 8 (.t 46) (.t 55)⟩,
 ⟨(some 6), none, false, .mov (.t 56)⟩])
 .skip)))
 (.reg false [0, 6, 7, 8] [⟨(some 29), none, false, .mov (.t 8)⟩,
 ⟨(some 30), none, false, .bin .add (.t 29) (.k (.d (.int .i64 1)))⟩,
 ⟨(some 8), none, false, .mov (.t 30)⟩]))))))
 (.seq
 (.reg false [4, 5] [⟨(some 57), none, false, .mov (.t 6)⟩,
 ⟨(some 4), none, false, .mov (.t 57)⟩,
 ⟨(some 5), none, false, .mov (.k (.d (.bool true)))⟩])
 .ret))))))
theorem c8 : (Go.Proofs.Try.f8).body.bind (comp prog.P (2, (Go.Proofs.Try.f8).ntmps) lv8) = some m8 := by kernel_rfl
theorem r8 : resOK prog.P (Go.Proofs.Try.f8).results.toList = true := by kernel_rfl

/-- laws.toAppealS -/
def lv9 : List (Nat × List Nat) := [(0, [0]), (1, [0, 3]), (2, [0, 3, 4]), (3, [0, 3, 4, 11]), (4, [0, 3, 4]), (5, [0, 3, 4]), (6, [2])]
def m9 : MC :=
  (.seq
 (.reg false [0] [⟨(some 2), none, false, .mov (.k .nil)⟩])
 (.seq
 (.reg false [0, 3] [⟨(some 5), none, false, .mov (.t 0)⟩,
 ⟨(some 6), none, false, .len false (.t 5)⟩,
 ⟨(some 7), none, true, .mk 6 80 (.st (.cons (.int .i64 0) (.cons (.int .i64 0) (.cons (.int .i64 0) (.cons (.sl true 1 .nil) (.cons (.sl true 1 .nil) (.cons (.int .i64 0) .nil))))))) (.t 6)⟩,
 ⟨(some 3), none, false, .mov (.t 7)⟩])
 (.seq
 (.seq
 (.reg false [0, 3, 4] [⟨(some 4), none, false, .mov (.k (.d (.int .i64 0)))⟩])
 (.block 0
 (.loop
 (.seq
 (.seq
 (.reg false [0, 3, 4, 11] [⟨(some 8), none, false, .mov (.t 4)⟩,
 ⟨(some 9), none, false, .mov (.t 0)⟩,
 ⟨(some 10), none, false, .len false (.t 9)⟩,
 ⟨(some 11), none, false, .bin .lss (.t 8) (.t 10)⟩])
 (.cond (.t 11)
 .skip
 (.exit 0)))
 (.seq
 (.block 1
 (.reg false [0, 3, 4] [⟨(some 14), none, false, .mov (.t 3)⟩,
 ⟨(some 15), none, false, .mov (.t 4)⟩,
 ⟨(some 16), none, false, .mov (.t 0)⟩,
 ⟨(some 17), none, false, .mov (.t 4)⟩,
 ⟨(some 18), none, false, .ia 6 (.t 16) (.t 17)⟩,
 ⟨(some 19), none, false, .ld (some 6) (.t 18)⟩,
 ⟨(some 20), none, true, .call 65 [(.t 19)]⟩,
 ⟨(some 21), none, false, .ia 6 (.t 14) (.t 15)⟩,
 ⟨none, none, true, .st 6 (.t 21) (.t 20)⟩]))
 (.reg false [0, 3, 4] [⟨(some 12), none, false, .mov (.t 4)⟩,
 ⟨(some 13), none, false, .bin .add (.t 12) (.k (.d (.int .i64 1)))⟩,
 ⟨(some 4), none, false, .mov (.t 13)⟩]))))))
 (.seq
 (.reg false [2] [⟨(some 22), none, false, .mov (.t 3)⟩,
 ⟨(some 2), none, false, .mov (.t 22)⟩])
 .ret))))
theorem c9 : (Go.Proofs.Try.f9).body.bind (comp prog.P (1, (Go.Proofs.Try.f9).ntmps) lv9) = some m9 := by kernel_rfl
theorem r9 : resOK prog.P (Go.Proofs.Try.f9).results.toList = true := by kernel_rfl

/-- impl.NotHeard -/
def lv10 : List (Nat × List Nat) := [(0, [1, 2]), (1, [2, 6]), (2, [2, 6, 16]), (3, [4, 5]), (4, [4, 5])]
def m10 : MC :=
  (.seq
 (.reg false [1, 2] [⟨(some 2), none, true, .box (.t 0)⟩,
 ⟨(some 4), none, false, .mov (.k .nil)⟩,
 ⟨(some 5), none, false, .mov (.k (.d (.bool false)))⟩])
 (.seq
 (.reg false [2, 6] [⟨(some 7), none, false, .ld none (.t 2)⟩,
 ⟨(some 8), none, false, .mov (.t 1)⟩,
 ⟨(some 9), none, true, .call 66 [(.t 7), (.t 8)]⟩,
 ⟨(some 6), none, true, .alloc (.int .i64 0)⟩,
 ⟨none, none, true, .st 1 (.t 6) (.t 9)⟩])
 (.seq
 (.seq
 (.reg false [2, 6, 16] [⟨(some 10), none, false, .ld none (.t 2)⟩,
 ⟨(some 11), none, true, .call 51 [(.t 10)]⟩,
 ⟨(some 12), none, false, .un .not (.t 11)⟩,
 ⟨(some 13), none, false, .mov (.t 12)⟩,
 ⟨(some 14), (some (13, false)), false, .ld none (.t 6)⟩,
 ⟨(some 15), (some (13, false)), false, .bin .lss (.t 14) (.k (.d (.int .i64 0)))⟩,
 ⟨(some 16), none, false, .pick (.t 13) (.k (.d (.bool true))) (.t 15)⟩])
 (.cond (.t 16)
 (.seq
 (.reg false [4, 5] [⟨(some 4), none, false, .mov (.k .nil)⟩,
 ⟨(some 5), none, false, .mov (.k (.d (.bool false)))⟩])
 .ret)
 .skip))
 (.seq
 (.reg false [4, 5] [⟨(some 17), none, false, .ld none (.t 2)⟩,
 ⟨(some 18), none, false, .ld none (.t 6)⟩,
 ⟨(some 19), none, false, .ia 6 (.t 17) (.t 18)⟩,
 ⟨(some 20), none, false, .fa 3 3 (.t 19)⟩,
 ⟨(some 21), none, false, .ld none (.t 20)⟩,
 ⟨(some 22), none, true, .call 68 [(.t 21)]⟩,
 ⟨(some 23), none, false, .clos 69 [(.t 2), (.t 6)]⟩,
 ⟨(some 24), none, true, .call 67 [(.t 22), (.t 23)]⟩,
 ⟨(some 4), none, false, .mov (.t 24)⟩,
 ⟨(some 5), none, false, .mov (.k (.d (.bool true)))⟩])
 .ret))))
theorem c10 : (Go.Proofs.Try.f10).body.bind (comp prog.P (2, (Go.Proofs.Try.f10).ntmps) lv10) = some m10 := by kernel_rfl
theorem r10 : resOK prog.P (Go.Proofs.Try.f10).results.toList = true := by kernel_rfl

/-- laws.eqIntS -/
def lv11 : List (Nat × List Nat) := [(0, [0, 1]), (1, [0, 1, 10]), (2, [4]), (3, [0, 1, 5]), (4, [0, 1, 5, 14]), (5, [0, 1, 5]), (6, [0, 1, 5, 25]), (7, [4]), (8, [4])]
def m11 : MC :=
  (.seq
 (.reg false [0, 1] [⟨(some 4), none, false, .mov (.k (.d (.bool false)))⟩])
 (.seq
 (.seq
 (.reg false [0, 1, 10] [⟨(some 6), none, false, .mov (.t 0)⟩,
 ⟨(some 7), none, false, .len false (.t 6)⟩,
 ⟨(some 8), none, false, .mov (.t 1)⟩,
 ⟨(some 9), none, false, .len false (.t 8)⟩,
 ⟨(some 10), none, false, .bin .neq (.t 7) (.t 9)⟩])
 (.cond (.t 10)
 (.seq
 (.reg false [4] [⟨(some 4), none, false, .mov (.k (.d (.bool false)))⟩])
 .ret)
 .skip))
 (.seq
 (.seq
 (.reg false [0, 1, 5] [⟨(some 5), none, false, .mov (.k (.d (.int .i64 0)))⟩])
 (.block 0
 (.loop
 (.seq
 (.seq
 (.reg false [0, 1, 5, 14] [⟨(some 11), none, false, .mov (.t 5)⟩,
 ⟨(some 12), none, false, .mov (.t 0)⟩,
 ⟨(some 13), none, false, .len false (.t 12)⟩,
 ⟨(some 14), none, false, .bin .lss (.t 11) (.t 13)⟩])
 (.cond (.t 14)
 .skip
 (.exit 0)))
 (.seq
 (.block 1
 (.seq
 (.reg true [0, 1, 5, 25] [⟨(some 17), none, false, .mov (.t 0)⟩,
 ⟨(some 18), none, false, .mov (.t 5)⟩,
 ⟨(some 19), none, false, .ia 1 (.t 17) (.t 18)⟩,
 ⟨(some 20), none, false, .ld none (.t 19)⟩,
 ⟨(some 21), none, false, .mov (.t 1)⟩,
 ⟨(some 22), none, false, .mov (.t 5)⟩,
 ⟨(some 23), none, false, .ia 1 (.t 21) (.t 22)⟩,
 ⟨(some 24), none, false, .ld none (.t 23)⟩,
 ⟨(some 25), none, false, .bin .neq (.t 20) (.t 24)⟩])
 (.cond (.t 25)
 (.seq
 (.reg false [4] [⟨(some 4), none, false, .mov (.k (.d (.bool false)))⟩])
 .ret)
 .skip)))
 (.reg false [0, 1, 5] [⟨(some 15), none, false, .mov (.t 5)⟩,
 ⟨(some 16), none, false, .bin .add (.t 15) (.k (.d (.int .i64 1)))⟩,
 ⟨(some 5), none, false, .mov (.t 16)⟩]))))))
 (.seq
 (.reg false [4] [⟨(some 4), none, false, .mov (.k (.d (.bool true)))⟩])
 .ret))))
theorem c11 : (Go.Proofs.Try.f11).body.bind (comp prog.P (2, (Go.Proofs.Try.f11).ntmps) lv11) = some m11 := by kernel_rfl
theorem r11 : resOK prog.P (Go.Proofs.Try.f11).results.toList = true := by kernel_rfl

/-- laws.eqAppealS -/
def lv12 : List (Nat × List Nat) := [(0, [0, 1]), (1, [0, 1, 10]), (2, [4]), (3, [0, 1, 5]), (4, [0, 1, 5, 14]), (5, [0, 1, 5]), (6, [0, 1, 5, 26]), (7, [4]), (8, [4])]
def m12 : MC :=
  (.seq
 (.reg false [0, 1] [⟨(some 4), none, false, .mov (.k (.d (.bool false)))⟩])
 (.seq
 (.seq
 (.reg false [0, 1, 10] [⟨(some 6), none, false, .mov (.t 0)⟩,
 ⟨(some 7), none, false, .len false (.t 6)⟩,
 ⟨(some 8), none, false, .mov (.t 1)⟩,
 ⟨(some 9), none, false, .len false (.t 8)⟩,
 ⟨(some 10), none, false, .bin .neq (.t 7) (.t 9)⟩])
 (.cond (.t 10)
 (.seq
 (.reg false [4] [⟨(some 4), none, false, .mov (.k (.d (.bool false)))⟩])
 .ret)
 .skip))
 (.seq
 (.seq
 (.reg false [0, 1, 5] [⟨(some 5), none, false, .mov (.k (.d (.int .i64 0)))⟩])
 (.block 0
 (.loop
 (.seq
 (.seq
 (.reg false [0, 1, 5, 14] [⟨(some 11), none, false, .mov (.t 5)⟩,
 ⟨(some 12), none, false, .mov (.t 0)⟩,
 ⟨(some 13), none, false, .len false (.t 12)⟩,
 ⟨(some 14), none, false, .bin .lss (.t 11) (.t 13)⟩])
 (.cond (.t 14)
 .skip
 (.exit 0)))
 (.seq
 (.block 1
 (.seq
 (.reg true [0, 1, 5, 26] [⟨(some 17), none, false, .mov (.t 0)⟩,
 ⟨(some 18), none, false, .mov (.t 5)⟩,
 ⟨(some 19), none, false, .ia 6 (.t 17) (.t 18)⟩,
 ⟨(some 20), none, false, .ld (some 6) (.t 19)⟩,
 ⟨(some 21), none, false, .mov (.t 1)⟩,
 ⟨(some 22), none, false, .mov (.t 5)⟩,
 ⟨(some 23), none, false, .ia 6 (.t 21) (.t 22)⟩,
 ⟨(some 24), none, false, .ld (some 6) (.t 23)⟩,
 ⟨(some 25), none, false, .callP 71 [(.t 20), (.t 24)]⟩,
 ⟨(some 26), none, false, .un .not (.t 25)⟩])
 (.cond (.t 26)
 (.seq
 (.reg false [4] [⟨(some 4), none, false, .mov (.k (.d (.bool false)))⟩])
 .ret)
 .skip)))
 (.reg false [0, 1, 5] [⟨(some 15), none, false, .mov (.t 5)⟩,
 ⟨(some 16), none, false, .bin .add (.t 15) (.k (.d (.int .i64 1)))⟩,
 ⟨(some 5), none, false, .mov (.t 16)⟩]))))))
 (.seq
 (.reg false [4] [⟨(some 4), none, false, .mov (.k (.d (.bool true)))⟩])
 .ret))))
theorem c12 : (Go.Proofs.Try.f12).body.bind (comp prog.P (2, (Go.Proofs.Try.f12).ntmps) lv12) = some m12 := by kernel_rfl
theorem r12 : resOK prog.P (Go.Proofs.Try.f12).results.toList = true := by kernel_rfl

/-- laws.markAppealS -/
def lv13 : List (Nat × List Nat) := [(0, [0, 1]), (1, [0, 1, 5]), (2, [0, 1, 5, 9]), (3, [0, 1, 5]), (4, [0, 1, 5]), (5, [0, 1, 5]), (6, [0, 1, 5]), (7, [0, 1, 5]), (8, [0, 1, 5]), (9, [0, 1, 5]), (10, [0, 1, 5]), (11, [0, 1, 5]), (12, [0, 1, 5]), (13, [0, 1, 5]), (14, [0, 4])]
def m13 : MC :=
  (.seq
 (.reg false [0, 1] [⟨(some 4), none, false, .mov (.k (.d (.int .i64 0)))⟩])
 (.seq
 (.seq
 (.reg false [0, 1, 5] [⟨(some 5), none, false, .mov (.k (.d (.int .i64 0)))⟩])
 (.block 0
 (.loop
 (.seq
 (.seq
 (.reg false [0, 1, 5, 9] [⟨(some 6), none, false, .mov (.t 5)⟩,
 ⟨(some 7), none, false, .mov (.t 0)⟩,
 ⟨(some 8), none, false, .len false (.t 7)⟩,
 ⟨(some 9), none, false, .bin .lss (.t 6) (.t 8)⟩])
 (.cond (.t 9)
 .skip
 (.exit 0)))
 (.seq
 (.block 1
 (.seq
 (.reg false [0, 1, 5] [⟨(some 12), none, false, .mov (.t 0)⟩,
 ⟨(some 13), none, false, .mov (.t 5)⟩,
 ⟨(some 14), none, false, .mov (.t 1)⟩,
 ⟨(some 15), none, false, .ia 6 (.t 12) (.t 13)⟩,
 ⟨(some 16), none, false, .fa 0 0 (.t 15)⟩,
 ⟨none, none, true, .st 1 (.t 16) (.t 14)⟩])
 (.seq
 (.reg false [0, 1, 5] [⟨(some 17), none, false, .mov (.t 1)⟩,
 ⟨(some 18), none, false, .bin .add (.t 17) (.k (.d (.int .i64 1)))⟩,
 ⟨(some 1), none, false, .mov (.t 18)⟩])
 (.seq
 (.reg false [0, 1, 5] [⟨(some 19), none, false, .mov (.t 0)⟩,
 ⟨(some 20), none, false, .mov (.t 5)⟩,
 ⟨(some 21), none, false, .mov (.t 1)⟩,
 ⟨(some 22), none, false, .ia 6 (.t 19) (.t 20)⟩,
 ⟨(some 23), none, false, .fa 1 1 (.t 22)⟩,
 ⟨none, none, true, .st 1 (.t 23) (.t 21)⟩])
 (.seq
 (.reg false [0, 1, 5] [⟨(some 24), none, false, .mov (.t 1)⟩,
 ⟨(some 25), none, false, .bin .add (.t 24) (.k (.d (.int .i64 1)))⟩,
 ⟨(some 1), none, false, .mov (.t 25)⟩])
 (.seq
 (.reg false [0, 1, 5] [⟨(some 26), none, false, .mov (.t 0)⟩,
 ⟨(some 27), none, false, .mov (.t 5)⟩,
 ⟨(some 28), none, false, .mov (.t 1)⟩,
 ⟨(some 29), none, false, .ia 6 (.t 26) (.t 27)⟩,
 ⟨(some 30), none, false, .fa 2 2 (.t 29)⟩,
 ⟨none, none, true, .st 1 (.t 30) (.t 28)⟩])
 (.seq
 (.reg false [0, 1, 5] [⟨(some 31), none, false, .mov (.t 1)⟩,
 ⟨(some 32), none, false, .bin .add (.t 31) (.k (.d (.int .i64 1)))⟩,
 ⟨(some 1), none, false, .mov (.t 32)⟩])
 (.seq
 (.reg false [0, 1, 5] [⟨(some 33), none, false, .mov (.t 0)⟩,
 ⟨(some 34), none, false, .mov (.t 5)⟩,
 ⟨(some 35), none, false, .ia 6 (.t 33) (.t 34)⟩,
 ⟨(some 36), none, false, .fa 3 3 (.t 35)⟩,
 ⟨(some 37), none, false, .ld none (.t 36)⟩,
 ⟨(some 38), none, false, .mov (.t 1)⟩,
 ⟨(some 39), none, true, .call 14 [(.t 37), (.t 38)]⟩,
 ⟨(some 1), none, false, .mov (.t 39)⟩])
 (.seq
 (.reg false [0, 1, 5] [⟨(some 40), none, false, .mov (.t 0)⟩,
 ⟨(some 41), none, false, .mov (.t 5)⟩,
 ⟨(some 42), none, false, .ia 6 (.t 40) (.t 41)⟩,
 ⟨(some 43), none, false, .fa 4 4 (.t 42)⟩,
 ⟨(some 44), none, false, .ld none (.t 43)⟩,
 ⟨(some 45), none, false, .mov (.t 1)⟩,
 ⟨(some 46), none, true, .call 14 [(.t 44), (.t 45)]⟩,
 ⟨(some 1), none, false, .mov (.t 46)⟩])
 (.seq
 (.reg false [0, 1, 5] [⟨(some 47), none, false, .mov (.t 0)⟩,
 ⟨(some 48), none, false, .mov (.t 5)⟩,
 ⟨(some 49), none, false, .mov (.t 1)⟩,
 ⟨(some 50), none, false, .ia 6 (.t 47) (.t 48)⟩,
 ⟨(some 51), none, false, .fa 5 5 (.t 50)⟩,
 ⟨none, none, true, .st 1 (.t 51) (.t 49)⟩])
 (.reg false [0, 1, 5] [⟨(some 52), none, false, .mov (.t 1)⟩,
 ⟨(some 53), none, false, .bin .add (.t 52) (.k (.d (.int .i64 1)))⟩,
 ⟨(some 1), none, false, .mov (.t 53)⟩])))))))))))
 (.reg false [0, 1, 5] [⟨(some 10), none, false, .mov (.t 5)⟩,
 ⟨(some 11), none, false, .bin .add (.t 10) (.k (.d (.int .i64 1)))⟩,
 ⟨(some 5), none, false, .mov (.t 11)⟩]))))))
 (.seq
 (.reg false [0, 4] [⟨(some 54), none, false, .mov (.t 1)⟩,
 ⟨(some 4), none, false, .mov (.t 54)⟩])
 .ret)))
theorem c13 : (Go.Proofs.Try.f13).body.bind (comp prog.P (1, (Go.Proofs.Try.f13).ntmps) lv13) = some m13 := by kernel_rfl
theorem r13 : resOK prog.P (Go.Proofs.Try.f13).results.toList = true := by kernel_rfl

/-- laws.markIntS -/
def lv14 : List (Nat × List Nat) := [(0, [0, 1]), (1, [0, 1, 5]), (2, [0, 1, 5, 9]), (3, [0, 1, 5]), (4, [0, 1, 5]), (5, [0, 1, 5]), (6, [0, 4])]
def m14 : MC :=
  (.seq
 (.reg false [0, 1] [⟨(some 4), none, false, .mov (.k (.d (.int .i64 0)))⟩])
 (.seq
 (.seq
 (.reg false [0, 1, 5] [⟨(some 5), none, false, .mov (.k (.d (.int .i64 0)))⟩])
 (.block 0
 (.loop
 (.seq
 (.seq
 (.reg false [0, 1, 5, 9] [⟨(some 6), none, false, .mov (.t 5)⟩,
 ⟨(some 7), none, false, .mov (.t 0)⟩,
 ⟨(some 8), none, false, .len false (.t 7)⟩,
 ⟨(some 9), none, false, .bin .lss (.t 6) (.t 8)⟩])
 (.cond (.t 9)
 .skip
 (.exit 0)))
 (.seq
 (.block 1
 (.seq
 (.reg false [0, 1, 5] [⟨(some 12), none, false, .mov (.t 0)⟩,
 ⟨(some 13), none, false, .mov (.t 5)⟩,
 ⟨(some 14), none, false, .mov (.t 1)⟩,
 ⟨(some 15), none, false, .ia 1 (.t 12) (.t 13)⟩,
 ⟨none, none, true, .st 1 (.t 15) (.t 14)⟩])
 (.reg false [0, 1, 5] [⟨(some 16), none, false, .mov (.t 1)⟩,
 ⟨(some 17), none, false, .bin .add (.t 16) (.k (.d (.int .i64 1)))⟩,
 ⟨(some 1), none, false, .mov (.t 17)⟩])))
 (.reg false [0, 1, 5] [⟨(some 10), none, false, .mov (.t 5)⟩,
 ⟨(some 11), none, false, .bin .add (.t 10) (.k (.d (.int .i64 1)))⟩,
 ⟨(some 5), none, false, .mov (.t 11)⟩]))))))
 (.seq
 (.reg false [0, 4] [⟨(some 18), none, false, .mov (.t 1)⟩,
 ⟨(some 4), none, false, .mov (.t 18)⟩])
 .ret)))
theorem c14 : (Go.Proofs.Try.f14).body.bind (comp prog.P (1, (Go.Proofs.Try.f14).ntmps) lv14) = some m14 := by kernel_rfl
theorem r14 : resOK prog.P (Go.Proofs.Try.f14).results.toList = true := by kernel_rfl

/-- laws.heldIntS -/
def lv15 : List (Nat × List Nat) := [(0, [0, 1]), (1, [0, 1, 5]), (2, [0, 1, 5, 9]), (3, [0, 1, 5]), (4, [0, 1, 5, 17]), (5, [4]), (6, [0, 1, 5]), (7, [4])]
def m15 : MC :=
  (.seq
 (.reg false [0, 1] [⟨(some 4), none, false, .mov (.k (.d (.int .i64 0)))⟩])
 (.seq
 (.seq
 (.reg false [0, 1, 5] [⟨(some 5), none, false, .mov (.k (.d (.int .i64 0)))⟩])
 (.block 0
 (.loop
 (.seq
 (.seq
 (.reg false [0, 1, 5, 9] [⟨(some 6), none, false, .mov (.t 5)⟩,
 ⟨(some 7), none, false, .mov (.t 0)⟩,
 ⟨(some 8), none, false, .len false (.t 7)⟩,
 ⟨(some 9), none, false, .bin .lss (.t 6) (.t 8)⟩])
 (.cond (.t 9)
 .skip
 (.exit 0)))
 (.seq
 (.block 1
 (.seq
 (.seq
 (.reg false [0, 1, 5, 17] [⟨(some 12), none, false, .mov (.t 0)⟩,
 ⟨(some 13), none, false, .mov (.t 5)⟩,
 ⟨(some 14), none, false, .ia 1 (.t 12) (.t 13)⟩,
 ⟨(some 15), none, false, .ld none (.t 14)⟩,
 ⟨(some 16), none, false, .mov (.t 1)⟩,
 ⟨(some 17), none, false, .bin .neq (.t 15) (.t 16)⟩])
 (.cond (.t 17)
 (.seq
 (.reg false [4] [⟨(some 4), none, false, .mov (.k (.d (.int .i64 (-1))))⟩])
 .ret)
 .skip))
 (.reg false [0, 1, 5] [⟨(some 18), none, false, .mov (.t 1)⟩,
 ⟨(some 19), none, false, .bin .add (.t 18) (.k (.d (.int .i64 1)))⟩,
 ⟨(some 1), none, false, .mov (.t 19)⟩])))
 (.reg false [0, 1, 5] [⟨(some 10), none, false, .mov (.t 5)⟩,
 ⟨(some 11), none, false, .bin .add (.t 10) (.k (.d (.int .i64 1)))⟩,
 ⟨(some 5), none, false, .mov (.t 11)⟩]))))))
 (.seq
 (.reg false [4] [⟨(some 20), none, false, .mov (.t 1)⟩,
 ⟨(some 4), none, false, .mov (.t 20)⟩])
 .ret)))
theorem c15 : (Go.Proofs.Try.f15).body.bind (comp prog.P (1, (Go.Proofs.Try.f15).ntmps) lv15) = some m15 := by kernel_rfl
theorem r15 : resOK prog.P (Go.Proofs.Try.f15).results.toList = true := by kernel_rfl

/-- impl.DaysLeft -/
def lv40 : List (Nat × List Nat) := [(0, [0, 1, 2]), (1, [0, 2, 8]), (2, [0, 2, 8, 36]), (3, [6, 7]), (4, [6, 7])]
def m40 : MC :=
  (.seq
 (.reg false [0, 1, 2] [⟨(some 6), none, false, .mov (.k (.d (.int .i64 0)))⟩,
 ⟨(some 7), none, false, .mov (.k (.d (.bool false)))⟩])
 (.seq
 (.reg false [0, 2, 8] [⟨(some 9), none, false, .mov (.t 0)⟩,
 ⟨(some 10), none, false, .mov (.t 1)⟩,
 ⟨(some 11), none, true, .call 66 [(.t 9), (.t 10)]⟩,
 ⟨(some 8), none, false, .mov (.t 11)⟩])
 (.seq
 (.seq
 (.reg false [0, 2, 8, 36] [⟨(some 12), none, false, .mov (.t 0)⟩,
 ⟨(some 13), none, true, .call 51 [(.t 12)]⟩,
 ⟨(some 14), none, false, .un .not (.t 13)⟩,
 ⟨(some 15), none, false, .mov (.t 14)⟩,
 ⟨(some 16), (some (15, false)), false, .mov (.t 8)⟩,
 ⟨(some 17), (some (15, false)), false, .bin .lss (.t 16) (.k (.d (.int .i64 0)))⟩,
 ⟨(some 18), none, false, .pick (.t 15) (.k (.d (.bool true))) (.t 17)⟩,
 ⟨(some 19), none, false, .mov (.t 18)⟩,
 ⟨(some 20), (some (19, false)), false, .mov (.t 0)⟩,
 ⟨(some 21), (some (19, false)), false, .mov (.t 8)⟩,
 ⟨(some 22), (some (19, false)), false, .ia 6 (.t 20) (.t 21)⟩,
 ⟨(some 23), (some (19, false)), false, .fa 5 5 (.t 22)⟩,
 ⟨(some 24), (some (19, false)), false, .ld none (.t 23)⟩,
 ⟨(some 25), (some (19, false)), false, .bin .neq (.t 24) (.k (.d (.int .i64 0)))⟩,
 ⟨(some 26), none, false, .pick (.t 19) (.k (.d (.bool true))) (.t 25)⟩,
 ⟨(some 27), none, false, .mov (.t 26)⟩,
 ⟨(some 28), (some (27, false)), false, .mov (.t 0)⟩,
 ⟨(some 29), (some (27, false)), false, .mov (.t 8)⟩,
 ⟨(some 30), (some (27, false)), false, .ia 6 (.t 28) (.t 29)⟩,
 ⟨(some 31), (some (27, false)), false, .fa 2 2 (.t 30)⟩,
 ⟨(some 32), (some (27, false)), false, .ld none (.t 31)⟩,
 ⟨(some 33), (some (27, false)), false, .mov (.t 2)⟩,
 ⟨(some 34), (some (27, false)), true, .call 99 [(.t 32), (.t 33)]⟩,
 ⟨(some 35), (some (27, false)), false, .un .not (.t 34)⟩,
 ⟨(some 36), none, false, .pick (.t 27) (.k (.d (.bool true))) (.t 35)⟩])
 (.cond (.t 36)
 (.seq
 (.reg false [6, 7] [⟨(some 6), none, false, .mov (.k (.d (.int .i64 0)))⟩,
 ⟨(some 7), none, false, .mov (.k (.d (.bool false)))⟩])
 .ret)
 .skip))
 (.seq
 (.reg false [6, 7] [⟨(some 37), none, false, .mov (.t 2)⟩,
 ⟨(some 38), none, false, .mov (.t 0)⟩,
 ⟨(some 39), none, false, .mov (.t 8)⟩,
 ⟨(some 40), none, false, .ia 6 (.t 38) (.t 39)⟩,
 ⟨(some 41), none, false, .fa 2 2 (.t 40)⟩,
 ⟨(some 42), none, false, .ld none (.t 41)⟩,
 ⟨(some 43), none, false, .bin .sub (.t 37) (.t 42)⟩,
 ⟨(some 44), none, false, .bin .sub (.k (.d (.int .i64 60))) (.t 43)⟩,
 ⟨(some 45), none, false, .mx true (.t 44) (.k (.d (.int .i64 0)))⟩,
 ⟨(some 6), none, false, .mov (.t 45)⟩,
 ⟨(some 7), none, false, .mov (.k (.d (.bool true)))⟩])
 .ret))))
theorem c40 : (Go.Proofs.Try.f40).body.bind (comp prog.P (3, (Go.Proofs.Try.f40).ntmps) lv40) = some m40 := by kernel_rfl
theorem r40 : resOK prog.P (Go.Proofs.Try.f40).results.toList = true := by kernel_rfl

/-- spec.DaysLeft -/
def lv41 : List (Nat × List Nat) := [(0, [0, 1, 2]), (1, [0, 2, 8]), (2, [0, 2, 8, 40]), (3, [6, 7]), (4, [6, 7])]
def m41 : MC :=
  (.seq
 (.reg false [0, 1, 2] [⟨(some 6), none, false, .mov (.k (.d (.int .i64 0)))⟩,
 ⟨(some 7), none, false, .mov (.k (.d (.bool false)))⟩])
 (.seq
 (.reg false [0, 2, 8] [⟨(some 9), none, false, .mov (.t 0)⟩,
 ⟨(some 10), none, false, .mov (.t 1)⟩,
 ⟨(some 11), none, true, .call 62 [(.t 9), (.t 10)]⟩,
 ⟨(some 8), none, false, .mov (.t 11)⟩])
 (.seq
 (.seq
 (.reg false [0, 2, 8, 40] [⟨(some 12), none, false, .mov (.t 0)⟩,
 ⟨(some 13), none, true, .call 63 [(.t 12)]⟩,
 ⟨(some 14), none, false, .un .not (.t 13)⟩,
 ⟨(some 15), none, false, .mov (.t 14)⟩,
 ⟨(some 16), (some (15, false)), false, .mov (.t 8)⟩,
 ⟨(some 17), (some (15, false)), false, .bin .lss (.t 16) (.k (.d (.int .i64 0)))⟩,
 ⟨(some 18), none, false, .pick (.t 15) (.k (.d (.bool true))) (.t 17)⟩,
 ⟨(some 19), none, false, .mov (.t 18)⟩,
 ⟨(some 20), (some (19, false)), false, .mov (.t 0)⟩,
 ⟨(some 21), (some (19, false)), false, .mov (.t 8)⟩,
 ⟨(some 22), (some (19, false)), false, .ia 6 (.t 20) (.t 21)⟩,
 ⟨(some 23), (some (19, false)), false, .fa 5 5 (.t 22)⟩,
 ⟨(some 24), (some (19, false)), false, .ld none (.t 23)⟩,
 ⟨(some 25), (some (19, false)), false, .bin .neq (.t 24) (.k (.d (.int .i64 0)))⟩,
 ⟨(some 26), none, false, .pick (.t 19) (.k (.d (.bool true))) (.t 25)⟩,
 ⟨(some 27), none, false, .mov (.t 26)⟩,
 ⟨(some 28), (some (27, false)), false, .mov (.t 2)⟩,
 ⟨(some 29), (some (27, false)), true, .call 96 [(.t 28)]⟩,
 ⟨(some 30), (some (27, false)), false, .un .not (.t 29)⟩,
 ⟨(some 31), none, false, .pick (.t 27) (.k (.d (.bool true))) (.t 30)⟩,
 ⟨(some 32), none, false, .mov (.t 31)⟩,
 ⟨(some 33), (some (32, false)), false, .mov (.t 2)⟩,
 ⟨(some 34), (some (32, false)), false, .mov (.t 0)⟩,
 ⟨(some 35), (some (32, false)), false, .mov (.t 8)⟩,
 ⟨(some 36), (some (32, false)), false, .ia 6 (.t 34) (.t 35)⟩,
 ⟨(some 37), (some (32, false)), false, .fa 2 2 (.t 36)⟩,
 ⟨(some 38), (some (32, false)), false, .ld none (.t 37)⟩,
 ⟨(some 39), (some (32, false)), false, .bin .lss (.t 33) (.t 38)⟩,
 ⟨(some 40), none, false, .pick (.t 32) (.k (.d (.bool true))) (.t 39)⟩])
 (.cond (.t 40)
 (.seq
 (.reg false [6, 7] [⟨(some 6), none, false, .mov (.k (.d (.int .i64 0)))⟩,
 ⟨(some 7), none, false, .mov (.k (.d (.bool false)))⟩])
 .ret)
 .skip))
 (.seq
 (.reg false [6, 7] [⟨(some 41), none, false, .mov (.t 2)⟩,
 ⟨(some 42), none, false, .bin .sub (.k (.d (.int .i64 60))) (.t 41)⟩,
 ⟨(some 43), none, false, .mov (.t 0)⟩,
 ⟨(some 44), none, false, .mov (.t 8)⟩,
 ⟨(some 45), none, false, .ia 6 (.t 43) (.t 44)⟩,
 ⟨(some 46), none, false, .fa 2 2 (.t 45)⟩,
 ⟨(some 47), none, false, .ld none (.t 46)⟩,
 ⟨(some 48), none, false, .bin .add (.t 42) (.t 47)⟩,
 ⟨(some 49), none, true, .call 100 [(.k (.d (.int .i64 0))), (.t 48)]⟩,
 ⟨(some 6), none, false, .mov (.t 49)⟩,
 ⟨(some 7), none, false, .mov (.k (.d (.bool true)))⟩])
 .ret))))
theorem c41 : (Go.Proofs.Try.f41).body.bind (comp prog.P (3, (Go.Proofs.Try.f41).ntmps) lv41) = some m41 := by kernel_rfl
theorem r41 : resOK prog.P (Go.Proofs.Try.f41).results.toList = true := by kernel_rfl

/-- impl.AreAppeals -/
def lv51 : List (Nat × List Nat) := [(0, [0]), (1, [0, 5, 6, 7]), (2, [0, 5, 6, 7, 8]), (3, [0, 3, 4, 5, 6, 7]), (4, [0, 3, 4, 5, 6, 7, 29]), (5, [2]), (6, [0, 5, 6, 7, 38]), (7, [2]), (8, [0, 5, 6, 7]), (9, [2])]
def m51 : MC :=
  (.seq
 (.reg false [0] [⟨(some 2), none, false, .mov (.k (.d (.bool false)))⟩])
 (.seq
 (.seq
 (.reg false [0, 5, 6, 7] [⟨(some 5), none, false, .mov (.t 0)⟩,
 ⟨(some 6), none, false, .len false (.t 5)⟩,
 ⟨(some 7), none, false, .mov (.k (.d (.int .i64 0)))⟩])
 (.block 0
 (.loop
 (.seq
 (.reg false [0, 5, 6, 7, 8] [⟨(some 8), none, false, .bin .lss (.t 7) (.t 6)⟩])
 (.seq
 (.cond (.t 8)
 .skip
 (.exit 0))
 (.seq
 (.block 1
 (.seq
 (.reg false [0, 3, 4, 5, 6, 7] [⟨(some 9), none, false, .mov (.t 7)⟩,
 ⟨(some 10), none, false, .ia 6 (.t 5) (.t 7)⟩,
 ⟨(some 11), none, false, .ld (some 6) (.t 10)⟩,
 ⟨(some 4), none, true, .alloc (.st (.cons (.int .i64 0) (.cons (.int .i64 0) (.cons (.int .i64 0) (.cons (.sl true 1 .nil) (.cons (.sl true 1 .nil) (.cons (.int .i64 0) .nil)))))))⟩,
 ⟨(some 3), none, false, .mov (.t 9)⟩,
 ⟨none, none, true, .st 6 (.t 4) (.t 11)⟩])
 (.seq
 (.seq
 (.reg true [0, 3, 4, 5, 6, 7, 29] [⟨(some 12), none, false, .ld (some 6) (.t 4)⟩,
 ⟨(some 13), none, false, .callP 59 [(.t 12)]⟩,
 ⟨(some 14), none, false, .un .not (.t 13)⟩,
 ⟨(some 15), none, false, .mov (.t 14)⟩,
 ⟨(some 16), (some (15, false)), false, .mov (.t 3)⟩,
 ⟨(some 17), (some (15, false)), false, .bin .gtr (.t 16) (.k (.d (.int .i64 0)))⟩,
 ⟨(some 18), (some (15, false)), false, .mov (.t 17)⟩,
 ⟨(some 19), (some (18, true)), false, .mov (.t 0)⟩,
 ⟨(some 20), (some (18, true)), false, .mov (.t 3)⟩,
 ⟨(some 21), (some (18, true)), false, .bin .sub (.t 20) (.k (.d (.int .i64 1)))⟩,
 ⟨(some 22), (some (18, true)), false, .ia 6 (.t 19) (.t 21)⟩,
 ⟨(some 23), (some (18, true)), false, .fa 0 0 (.t 22)⟩,
 ⟨(some 24), (some (18, true)), false, .ld none (.t 23)⟩,
 ⟨(some 25), (some (18, true)), false, .fa 0 0 (.t 4)⟩,
 ⟨(some 26), (some (18, true)), false, .ld none (.t 25)⟩,
 ⟨(some 27), (some (18, true)), false, .bin .geq (.t 24) (.t 26)⟩,
 ⟨(some 28), (some (15, false)), false, .pick (.t 18) (.t 27) (.k (.d (.bool false)))⟩,
 ⟨(some 29), none, false, .pick (.t 15) (.k (.d (.bool true))) (.t 28)⟩])
 (.cond (.t 29)
 (.seq
 (.reg false [2] [⟨(some 2), none, false, .mov (.k (.d (.bool false)))⟩])
 .ret)
 .skip))
 (.seq
 (.reg false [0, 5, 6, 7, 38] [⟨(some 30), none, false, .ld (some 6) (.t 4)⟩,
 ⟨(some 31), none, true, .call 105 [(.t 30)]⟩,
 ⟨(some 32), none, false, .mov (.t 31)⟩,
 ⟨(some 33), (some (32, true)), false, .mov (.t 0)⟩,
 ⟨(some 34), (some (32, true)), false, .mov (.t 3)⟩,
 ⟨(some 35), (some (32, true)), true, .cut 6 (.t 33) (.t 34)⟩,
 ⟨(some 36), (some (32, true)), false, .clos 107 [(.t 4)]⟩,
 ⟨(some 37), (some (32, true)), true, .call 106 [(.t 35), (.t 36)]⟩,
 ⟨(some 38), none, false, .pick (.t 32) (.t 37) (.k (.d (.bool false)))⟩])
 (.cond (.t 38)
 (.seq
 (.reg false [2] [⟨(some 2), none, false, .mov (.k (.d (.bool false)))⟩])
 .ret)
 .skip)))))
 (.reg false [0, 5, 6, 7] [⟨(some 39), none, false, .bin .add (.t 7) (.k (.d (.int .i64 1)))⟩,
 ⟨(some 7), none, false, .mov (.t 39)⟩])))))))
 (.seq
 (.reg false [2] [⟨(some 40), none, false, .mov (.t 0)⟩,
 ⟨(some 41), none, false, .len false (.t 40)⟩,
 ⟨(some 42), none, false, .bin .leq (.t 41) (.k (.d (.int .i64 10)))⟩,
 ⟨(some 2), none, false, .mov (.t 42)⟩])
 .ret)))
theorem c51 : (Go.Proofs.Try.f51).body.bind (comp prog.P (1, (Go.Proofs.Try.f51).ntmps) lv51) = some m51 := by kernel_rfl
theorem r51 : resOK prog.P (Go.Proofs.Try.f51).results.toList = true := by kernel_rfl

/-- impl.IsAppeal -/
def lv59 : List (Nat × List Nat) := [(0, [1]), (1, [1, 24]), (2, [2]), (3, [1, 45]), (4, [2]), (5, [1, 49]), (6, [2]), (7, [2])]
def m59 : MC :=
  (.seq
 (.reg false [1] [⟨(some 1), none, true, .box (.t 0)⟩,
 ⟨(some 2), none, false, .mov (.k (.d (.bool false)))⟩])
 (.seq
 (.seq
 (.reg false [1, 24] [⟨(some 3), none, false, .fa 0 0 (.t 1)⟩,
 ⟨(some 4), none, false, .ld none (.t 3)⟩,
 ⟨(some 5), none, true, .call 111 [(.t 4), (.k (.d (.int .i64 1))), (.k (.d (.int .i64 999)))]⟩,
 ⟨(some 6), none, false, .un .not (.t 5)⟩,
 ⟨(some 7), none, false, .mov (.t 6)⟩,
 ⟨(some 8), (some (7, false)), false, .fa 1 1 (.t 1)⟩,
 ⟨(some 9), (some (7, false)), false, .ld none (.t 8)⟩,
 ⟨(some 10), (some (7, false)), true, .call 111 [(.t 9), (.k (.d (.int .i64 1))), (.k (.d (.int .i64 999)))]⟩,
 ⟨(some 11), (some (7, false)), false, .un .not (.t 10)⟩,
 ⟨(some 12), none, false, .pick (.t 7) (.k (.d (.bool true))) (.t 11)⟩,
 ⟨(some 13), none, false, .mov (.t 12)⟩,
 ⟨(some 14), (some (13, false)), false, .fa 2 2 (.t 1)⟩,
 ⟨(some 15), (some (13, false)), false, .ld none (.t 14)⟩,
 ⟨(some 16), (some (13, false)), true, .call 94 [(.t 15)]⟩,
 ⟨(some 17), (some (13, false)), false, .un .not (.t 16)⟩,
 ⟨(some 18), none, false, .pick (.t 13) (.k (.d (.bool true))) (.t 17)⟩,
 ⟨(some 19), none, false, .mov (.t 18)⟩,
 ⟨(some 20), (some (19, false)), false, .fa 5 5 (.t 1)⟩,
 ⟨(some 21), (some (19, false)), false, .ld none (.t 20)⟩,
 ⟨(some 22), (some (19, false)), true, .call 111 [(.t 21), (.k (.d (.int .i64 0))), (.k (.d (.int .i64 4)))]⟩,
 ⟨(some 23), (some (19, false)), false, .un .not (.t 22)⟩,
 ⟨(some 24), none, false, .pick (.t 19) (.k (.d (.bool true))) (.t 23)⟩])
 (.cond (.t 24)
 (.seq
 (.reg false [2] [⟨(some 2), none, false, .mov (.k (.d (.bool false)))⟩])
 .ret)
 .skip))
 (.seq
 (.seq
 (.reg false [1, 45] [⟨(some 25), none, false, .fa 3 3 (.t 1)⟩,
 ⟨(some 26), none, false, .ld none (.t 25)⟩,
 ⟨(some 27), none, false, .len false (.t 26)⟩,
 ⟨(some 28), none, false, .bin .gtr (.t 27) (.k (.d (.int .i64 6)))⟩,
 ⟨(some 29), none, false, .mov (.t 28)⟩,
 ⟨(some 30), (some (29, false)), false, .fa 3 3 (.t 1)⟩,
 ⟨(some 31), (some (29, false)), false, .ld none (.t 30)⟩,
 ⟨(some 32), (some (29, false)), true, .call 112 [(.t 31)]⟩,
 ⟨(some 33), (some (29, false)), false, .un .not (.t 32)⟩,
 ⟨(some 34), none, false, .pick (.t 29) (.k (.d (.bool true))) (.t 33)⟩,
 ⟨(some 35), none, false, .mov (.t 34)⟩,
 ⟨(some 36), (some (35, false)), false, .fa 4 4 (.t 1)⟩,
 ⟨(some 37), (some (35, false)), false, .ld none (.t 36)⟩,
 ⟨(some 38), (some (35, false)), true, .call 112 [(.t 37)]⟩,
 ⟨(some 39), (some (35, false)), false, .un .not (.t 38)⟩,
 ⟨(some 40), none, false, .pick (.t 35) (.k (.d (.bool true))) (.t 39)⟩,
 ⟨(some 41), none, false, .mov (.t 40)⟩,
 ⟨(some 42), (some (41, false)), false, .fa 3 3 (.t 1)⟩,
 ⟨(some 43), (some (41, false)), false, .ld none (.t 42)⟩,
 ⟨(some 44), (some (41, false)), true, .call 113 [(.t 43), (.k (.d (.clo 114 .nil)))]⟩,
 ⟨(some 45), none, false, .pick (.t 41) (.k (.d (.bool true))) (.t 44)⟩])
 (.cond (.t 45)
 (.seq
 (.reg false [2] [⟨(some 2), none, false, .mov (.k (.d (.bool false)))⟩])
 .ret)
 .skip))
 (.seq
 (.seq
 (.reg false [1, 49] [⟨(some 46), none, false, .fa 4 4 (.t 1)⟩,
 ⟨(some 47), none, false, .ld none (.t 46)⟩,
 ⟨(some 48), none, false, .clos 115 [(.t 1)]⟩,
 ⟨(some 49), none, true, .call 113 [(.t 47), (.t 48)]⟩])
 (.cond (.t 49)
 (.seq
 (.reg false [2] [⟨(some 2), none, false, .mov (.k (.d (.bool false)))⟩])
 .ret)
 .skip))
 (.seq
 (.reg false [2] [⟨(some 50), none, false, .fa 4 4 (.t 1)⟩,
 ⟨(some 51), none, false, .ld none (.t 50)⟩,
 ⟨(some 52), none, false, .len false (.t 51)⟩,
 ⟨(some 53), none, false, .fa 3 3 (.t 1)⟩,
 ⟨(some 54), none, false, .ld none (.t 53)⟩,
 ⟨(some 55), none, false, .len false (.t 54)⟩,
 ⟨(some 56), none, false, .bin .lss (.t 52) (.t 55)⟩,
 ⟨(some 57), none, false, .fa 5 5 (.t 1)⟩,
 ⟨(some 58), none, false, .ld none (.t 57)⟩,
 ⟨(some 59), none, false, .bin .eql (.t 58) (.k (.d (.int .i64 0)))⟩,
 ⟨(some 60), none, false, .mov (.t 59)⟩,
 ⟨(some 61), (some (60, false)), false, .fa 5 5 (.t 1)⟩,
 ⟨(some 62), (some (60, false)), false, .ld none (.t 61)⟩,
 ⟨(some 63), (some (60, false)), false, .bin .eql (.t 62) (.k (.d (.int .i64 4)))⟩,
 ⟨(some 64), none, false, .pick (.t 60) (.k (.d (.bool true))) (.t 63)⟩,
 ⟨(some 65), none, false, .bb .eql (.t 56) (.t 64)⟩,
 ⟨(some 2), none, false, .mov (.t 65)⟩])
 .ret)))))
theorem c59 : (Go.Proofs.Try.f59).body.bind (comp prog.P (1, (Go.Proofs.Try.f59).ntmps) lv59) = some m59 := by kernel_rfl
theorem r59 : resOK prog.P (Go.Proofs.Try.f59).results.toList = true := by kernel_rfl

/-- laws.szAppeal -/
def lv61 : List (Nat × List Nat) := [(0, [1, 2]), (1, [1, 2]), (2, [1, 2, 10]), (3, [4]), (4, [1]), (5, [1, 16]), (6, [4]), (7, [4])]
def m61 : MC :=
  (.seq
 (.reg false [1, 2] [⟨(some 2), none, true, .box (.t 0)⟩,
 ⟨(some 4), none, false, .mov (.k (.d (.int .i64 0)))⟩])
 (.seq
 (.reg false [1, 2] [⟨(some 5), none, false, .fa 3 3 (.t 2)⟩,
 ⟨(some 6), none, false, .ld none (.t 5)⟩,
 ⟨(some 7), none, false, .mov (.t 1)⟩,
 ⟨(some 8), none, true, .call 117 [(.t 6), (.t 7)]⟩,
 ⟨(some 1), none, false, .mov (.t 8)⟩])
 (.seq
 (.seq
 (.reg false [1, 2, 10] [⟨(some 9), none, false, .mov (.t 1)⟩,
 ⟨(some 10), none, false, .bin .lss (.t 9) (.k (.d (.int .i64 0)))⟩])
 (.cond (.t 10)
 (.seq
 (.reg false [4] [⟨(some 4), none, false, .mov (.k (.d (.int .i64 (-1))))⟩])
 .ret)
 .skip))
 (.seq
 (.reg false [1] [⟨(some 11), none, false, .fa 4 4 (.t 2)⟩,
 ⟨(some 12), none, false, .ld none (.t 11)⟩,
 ⟨(some 13), none, false, .mov (.t 1)⟩,
 ⟨(some 14), none, true, .call 117 [(.t 12), (.t 13)]⟩,
 ⟨(some 1), none, false, .mov (.t 14)⟩])
 (.seq
 (.seq
 (.reg false [1, 16] [⟨(some 15), none, false, .mov (.t 1)⟩,
 ⟨(some 16), none, false, .bin .lss (.t 15) (.k (.d (.int .i64 0)))⟩])
 (.cond (.t 16)
 (.seq
 (.reg false [4] [⟨(some 4), none, false, .mov (.k (.d (.int .i64 (-1))))⟩])
 .ret)
 .skip))
 (.seq
 (.reg false [4] [⟨(some 17), none, false, .mov (.t 1)⟩,
 ⟨(some 4), none, false, .mov (.t 17)⟩])
 .ret))))))
theorem c61 : (Go.Proofs.Try.f61).body.bind (comp prog.P (1, (Go.Proofs.Try.f61).ntmps) lv61) = some m61 := by kernel_rfl
theorem r61 : resOK prog.P (Go.Proofs.Try.f61).results.toList = true := by kernel_rfl

/-- spec.l24Find -/
def lv62 : List (Nat × List Nat) := [(0, [0, 1]), (1, [0, 1, 5]), (2, [0, 1, 5, 9]), (3, [0, 1, 5]), (4, [0, 1, 5, 18]), (5, [4]), (6, [4])]
def m62 : MC :=
  (.seq
 (.reg false [0, 1] [⟨(some 4), none, false, .mov (.k (.d (.int .i64 0)))⟩])
 (.seq
 (.seq
 (.reg false [0, 1, 5] [⟨(some 5), none, false, .mov (.k (.d (.int .i64 0)))⟩])
 (.block 0
 (.loop
 (.seq
 (.seq
 (.reg false [0, 1, 5, 9] [⟨(some 6), none, false, .mov (.t 5)⟩,
 ⟨(some 7), none, false, .mov (.t 0)⟩,
 ⟨(some 8), none, false, .len false (.t 7)⟩,
 ⟨(some 9), none, false, .bin .lss (.t 6) (.t 8)⟩])
 (.cond (.t 9)
 .skip
 (.exit 0)))
 (.seq
 (.block 1
 (.seq
 (.reg false [0, 1, 5, 18] [⟨(some 12), none, false, .mov (.t 0)⟩,
 ⟨(some 13), none, false, .mov (.t 5)⟩,
 ⟨(some 14), none, false, .ia 6 (.t 12) (.t 13)⟩,
 ⟨(some 15), none, false, .fa 0 0 (.t 14)⟩,
 ⟨(some 16), none, false, .ld none (.t 15)⟩,
 ⟨(some 17), none, false, .mov (.t 1)⟩,
 ⟨(some 18), none, false, .bin .eql (.t 16) (.t 17)⟩])
 (.cond (.t 18)
 (.seq
 (.reg false [4] [⟨(some 19), none, false, .mov (.t 5)⟩,
 ⟨(some 4), none, false, .mov (.t 19)⟩])
 .ret)
 .skip)))
 (.reg false [0, 1, 5] [⟨(some 10), none, false, .mov (.t 5)⟩,
 ⟨(some 11), none, false, .bin .add (.t 10) (.k (.d (.int .i64 1)))⟩,
 ⟨(some 5), none, false, .mov (.t 11)⟩]))))))
 (.seq
 (.reg false [4] [⟨(some 4), none, false, .mov (.k (.d (.int .i64 (-1))))⟩])
 .ret)))
theorem c62 : (Go.Proofs.Try.f62).body.bind (comp prog.P (2, (Go.Proofs.Try.f62).ntmps) lv62) = some m62 := by kernel_rfl
theorem r62 : resOK prog.P (Go.Proofs.Try.f62).results.toList = true := by kernel_rfl

/-- spec.l24Good -/
def lv63 : List (Nat × List Nat) := [(0, [0]), (1, [0, 3]), (2, [0, 3, 13]), (3, [0, 3]), (4, [0, 3, 4]), (5, [0, 3, 4, 37]), (6, [2]), (7, [0, 3, 4, 5]), (8, [0, 3, 4, 5, 40]), (9, [0, 3, 4, 5]), (10, [0, 3, 4, 5, 63]), (11, [2]), (12, [2])]
def m63 : MC :=
  (.seq
 (.reg false [0] [⟨(some 2), none, false, .mov (.k (.d (.bool false)))⟩])
 (.seq
 (.seq
 (.reg false [0, 3] [⟨(some 3), none, false, .mov (.k (.d (.int .i64 0)))⟩])
 (.block 0
 (.loop
 (.seq
 (.seq
 (.reg false [0, 3, 13] [⟨(some 6), none, false, .mov (.t 3)⟩,
 ⟨(some 7), none, false, .mov (.t 0)⟩,
 ⟨(some 8), none, false, .len false (.t 7)⟩,
 ⟨(some 9), none, false, .bin .lss (.t 6) (.t 8)⟩,
 ⟨(some 10), none, false, .mov (.t 9)⟩,
 ⟨(some 11), (some (10, true)), false, .mov (.t 3)⟩,
 ⟨(some 12), (some (10, true)), false, .bin .leq (.t 11) (.k (.d (.int .i64 10)))⟩,
 ⟨(some 13), none, false, .pick (.t 10) (.t 12) (.k (.d (.bool false)))⟩])
 (.cond (.t 13)
 .skip
 (.exit 0)))
 (.seq
 (.block 1
 (.seq
 (.reg false [0, 3, 4] [⟨(some 16), none, false, .mov (.t 0)⟩,
 ⟨(some 17), none, false, .mov (.t 3)⟩,
 ⟨(some 18), none, false, .ia 6 (.t 16) (.t 17)⟩,
 ⟨(some 19), none, false, .ld (some 6) (.t 18)⟩,
 ⟨(some 4), none, true, .alloc (.st (.cons (.int .i64 0) (.cons (.int .i64 0) (.cons (.int .i64 0) (.cons (.sl true 1 .nil) (.cons (.sl true 1 .nil) (.cons (.int .i64 0) .nil)))))))⟩,
 ⟨none, none, true, .st 6 (.t 4) (.t 19)⟩])
 (.seq
 (.seq
 (.reg true [0, 3, 4, 37] [⟨(some 20), none, false, .ld (some 6) (.t 4)⟩,
 ⟨(some 21), none, false, .callP 116 [(.t 20)]⟩,
 ⟨(some 22), none, false, .un .not (.t 21)⟩,
 ⟨(some 23), none, false, .mov (.t 22)⟩,
 ⟨(some 24), (some (23, false)), false, .mov (.t 3)⟩,
 ⟨(some 25), (some (23, false)), false, .bin .gtr (.t 24) (.k (.d (.int .i64 0)))⟩,
 ⟨(some 26), (some (23, false)), false, .mov (.t 25)⟩,
 ⟨(some 27), (some (26, true)), false, .mov (.t 0)⟩,
 ⟨(some 28), (some (26, true)), false, .mov (.t 3)⟩,
 ⟨(some 29), (some (26, true)), false, .bin .sub (.t 28) (.k (.d (.int .i64 1)))⟩,
 ⟨(some 30), (some (26, true)), false, .ia 6 (.t 27) (.t 29)⟩,
 ⟨(some 31), (some (26, true)), false, .fa 0 0 (.t 30)⟩,
 ⟨(some 32), (some (26, true)), false, .ld none (.t 31)⟩,
 ⟨(some 33), (some (26, true)), false, .fa 0 0 (.t 4)⟩,
 ⟨(some 34), (some (26, true)), false, .ld none (.t 33)⟩,
 ⟨(some 35), (some (26, true)), false, .bin .geq (.t 32) (.t 34)⟩,
 ⟨(some 36), (some (23, false)), false, .pick (.t 26) (.t 35) (.k (.d (.bool false)))⟩,
 ⟨(some 37), none, false, .pick (.t 23) (.k (.d (.bool true))) (.t 36)⟩])
 (.cond (.t 37)
 (.seq
 (.reg false [2] [⟨(some 2), none, false, .mov (.k (.d (.bool false)))⟩])
 .ret)
 .skip))
 (.seq
 (.reg false [0, 3, 4, 5] [⟨(some 5), none, false, .mov (.k (.d (.int .i64 0)))⟩])
 (.block 2
 (.loop
 (.seq
 (.seq
 (.reg false [0, 3, 4, 5, 40] [⟨(some 38), none, false, .mov (.t 5)⟩,
 ⟨(some 39), none, false, .mov (.t 3)⟩,
 ⟨(some 40), none, false, .bin .lss (.t 38) (.t 39)⟩])
 (.cond (.t 40)
 .skip
 (.exit 2)))
 (.seq
 (.block 3
 (.seq
 (.reg true [0, 3, 4, 5, 63] [⟨(some 43), none, false, .mov (.t 0)⟩,
 ⟨(some 44), none, false, .mov (.t 5)⟩,
 ⟨(some 45), none, false, .ia 6 (.t 43) (.t 44)⟩,
 ⟨(some 46), none, false, .fa 1 1 (.t 45)⟩,
 ⟨(some 47), none, false, .ld none (.t 46)⟩,
 ⟨(some 48), none, false, .fa 1 1 (.t 4)⟩,
 ⟨(some 49), none, false, .ld none (.t 48)⟩,
 ⟨(some 50), none, false, .bin .eql (.t 47) (.t 49)⟩,
 ⟨(some 51), none, false, .mov (.t 50)⟩,
 ⟨(some 52), (some (51, true)), false, .mov (.t 0)⟩,
 ⟨(some 53), (some (51, true)), false, .mov (.t 5)⟩,
 ⟨(some 54), (some (51, true)), false, .ia 6 (.t 52) (.t 53)⟩,
 ⟨(some 55), (some (51, true)), false, .fa 5 5 (.t 54)⟩,
 ⟨(some 56), (some (51, true)), false, .ld none (.t 55)⟩,
 ⟨(some 57), (some (51, true)), false, .bin .leq (.t 56) (.k (.d (.int .i64 1)))⟩,
 ⟨(some 58), none, false, .pick (.t 51) (.t 57) (.k (.d (.bool false)))⟩,
 ⟨(some 59), none, false, .mov (.t 58)⟩,
 ⟨(some 60), (some (59, true)), false, .fa 5 5 (.t 4)⟩,
 ⟨(some 61), (some (59, true)), false, .ld none (.t 60)⟩,
 ⟨(some 62), (some (59, true)), false, .bin .leq (.t 61) (.k (.d (.int .i64 1)))⟩,
 ⟨(some 63), none, false, .pick (.t 59) (.t 62) (.k (.d (.bool false)))⟩])
 (.cond (.t 63)
 (.seq
 (.reg false [2] [⟨(some 2), none, false, .mov (.k (.d (.bool false)))⟩])
 .ret)
 .skip)))
 (.reg false [0, 3, 4, 5] [⟨(some 41), none, false, .mov (.t 5)⟩,
 ⟨(some 42), none, false, .bin .add (.t 41) (.k (.d (.int .i64 1)))⟩,
 ⟨(some 5), none, false, .mov (.t 42)⟩])))))))))
 (.reg false [0, 3] [⟨(some 14), none, false, .mov (.t 3)⟩,
 ⟨(some 15), none, false, .bin .add (.t 14) (.k (.d (.int .i64 1)))⟩,
 ⟨(some 3), none, false, .mov (.t 15)⟩]))))))
 (.seq
 (.reg false [2] [⟨(some 64), none, false, .mov (.t 0)⟩,
 ⟨(some 65), none, false, .len false (.t 64)⟩,
 ⟨(some 66), none, false, .bin .leq (.t 65) (.k (.d (.int .i64 10)))⟩,
 ⟨(some 2), none, false, .mov (.t 66)⟩])
 .ret)))
theorem c63 : (Go.Proofs.Try.f63).body.bind (comp prog.P (1, (Go.Proofs.Try.f63).ntmps) lv63) = some m63 := by kernel_rfl
theorem r63 : resOK prog.P (Go.Proofs.Try.f63).results.toList = true := by kernel_rfl

/-- spec.l1Has -/
def lv64 : List (Nat × List Nat) := [(0, [0, 1]), (1, [0, 1, 5]), (2, [0, 1, 5, 9]), (3, [0, 1, 5]), (4, [0, 1, 5, 17]), (5, [4]), (6, [4])]
def m64 : MC :=
  (.seq
 (.reg false [0, 1] [⟨(some 4), none, false, .mov (.k (.d (.bool false)))⟩])
 (.seq
 (.seq
 (.reg false [0, 1, 5] [⟨(some 5), none, false, .mov (.k (.d (.int .i64 0)))⟩])
 (.block 0
 (.loop
 (.seq
 (.seq
 (.reg false [0, 1, 5, 9] [⟨(some 6), none, false, .mov (.t 5)⟩,
 ⟨(some 7), none, false, .mov (.t 0)⟩,
 ⟨(some 8), none, false, .len false (.t 7)⟩,
 ⟨(some 9), none, false, .bin .lss (.t 6) (.t 8)⟩])
 (.cond (.t 9)
 .skip
 (.exit 0)))
 (.seq
 (.block 1
 (.seq
 (.reg false [0, 1, 5, 17] [⟨(some 12), none, false, .mov (.t 0)⟩,
 ⟨(some 13), none, false, .mov (.t 5)⟩,
 ⟨(some 14), none, false, .ia 1 (.t 12) (.t 13)⟩,
 ⟨(some 15), none, false, .ld none (.t 14)⟩,
 ⟨(some 16), none, false, .mov (.t 1)⟩,
 ⟨(some 17), none, false, .bin .eql (.t 15) (.t 16)⟩])
 (.cond (.t 17)
 (.seq
 (.reg false [4] [⟨(some 4), none, false, .mov (.k (.d (.bool true)))⟩])
 .ret)
 .skip)))
 (.reg false [0, 1, 5] [⟨(some 10), none, false, .mov (.t 5)⟩,
 ⟨(some 11), none, false, .bin .add (.t 10) (.k (.d (.int .i64 1)))⟩,
 ⟨(some 5), none, false, .mov (.t 11)⟩]))))))
 (.seq
 (.reg false [4] [⟨(some 4), none, false, .mov (.k (.d (.bool false)))⟩])
 .ret)))
theorem c64 : (Go.Proofs.Try.f64).body.bind (comp prog.P (2, (Go.Proofs.Try.f64).ntmps) lv64) = some m64 := by kernel_rfl
theorem r64 : resOK prog.P (Go.Proofs.Try.f64).results.toList = true := by kernel_rfl

/-- laws.toAppeal -/
def lv65 : List (Nat × List Nat) := [(0, [1, 2]), (1, [1, 2, 3]), (2, [1, 2, 3]), (3, [1, 2, 3]), (4, [1, 2, 3]), (5, [1, 2, 3]), (6, [1, 2, 3]), (7, [2, 3]), (8, [2])]
def m65 : MC :=
  (.seq
 (.reg false [1, 2] [⟨(some 1), none, true, .box (.t 0)⟩,
 ⟨(some 2), none, true, .alloc (.st (.cons (.int .i64 0) (.cons (.int .i64 0) (.cons (.int .i64 0) (.cons (.sl true 1 .nil) (.cons (.sl true 1 .nil) (.cons (.int .i64 0) .nil)))))))⟩])
 (.seq
 (.reg false [1, 2, 3] [⟨(some 3), none, true, .alloc (.st (.cons (.int .i64 0) (.cons (.int .i64 0) (.cons (.int .i64 0) (.cons (.sl true 1 .nil) (.cons (.sl true 1 .nil) (.cons (.int .i64 0) .nil)))))))⟩])
 (.seq
 (.reg false [1, 2, 3] [⟨(some 4), none, false, .fa 0 0 (.t 1)⟩,
 ⟨(some 5), none, false, .ld none (.t 4)⟩,
 ⟨(some 6), none, false, .fa 0 0 (.t 3)⟩,
 ⟨none, none, true, .st 1 (.t 6) (.t 5)⟩])
 (.seq
 (.reg false [1, 2, 3] [⟨(some 7), none, false, .fa 1 1 (.t 1)⟩,
 ⟨(some 8), none, false, .ld none (.t 7)⟩,
 ⟨(some 9), none, false, .fa 1 1 (.t 3)⟩,
 ⟨none, none, true, .st 1 (.t 9) (.t 8)⟩])
 (.seq
 (.reg false [1, 2, 3] [⟨(some 10), none, false, .fa 2 2 (.t 1)⟩,
 ⟨(some 11), none, false, .ld none (.t 10)⟩,
 ⟨(some 12), none, false, .fa 2 2 (.t 3)⟩,
 ⟨none, none, true, .st 1 (.t 12) (.t 11)⟩])
 (.seq
 (.reg false [1, 2, 3] [⟨(some 13), none, false, .fa 3 3 (.t 1)⟩,
 ⟨(some 14), none, false, .ld none (.t 13)⟩,
 ⟨(some 15), none, true, .call 118 [(.t 14)]⟩,
 ⟨(some 16), none, false, .fa 3 3 (.t 3)⟩,
 ⟨none, none, true, .st 1 (.t 16) (.t 15)⟩])
 (.seq
 (.reg false [1, 2, 3] [⟨(some 17), none, false, .fa 4 4 (.t 1)⟩,
 ⟨(some 18), none, false, .ld none (.t 17)⟩,
 ⟨(some 19), none, true, .call 118 [(.t 18)]⟩,
 ⟨(some 20), none, false, .fa 4 4 (.t 3)⟩,
 ⟨none, none, true, .st 1 (.t 20) (.t 19)⟩])
 (.seq
 (.reg false [2, 3] [⟨(some 21), none, false, .fa 5 5 (.t 1)⟩,
 ⟨(some 22), none, false, .ld none (.t 21)⟩,
 ⟨(some 23), none, false, .fa 5 5 (.t 3)⟩,
 ⟨none, none, true, .st 1 (.t 23) (.t 22)⟩])
 (.seq
 (.reg false [2] [⟨(some 24), none, false, .ld (some 6) (.t 3)⟩,
 ⟨none, none, true, .st 6 (.t 2) (.t 24)⟩])
 .ret)))))))))
theorem c65 : (Go.Proofs.Try.f65).body.bind (comp prog.P (1, (Go.Proofs.Try.f65).ntmps) lv65) = some m65 := by kernel_rfl
theorem r65 : resOK prog.P (Go.Proofs.Try.f65).results.toList = true := by kernel_rfl

/-- impl.appealAt -/
def lv66 : List (Nat × List Nat) := [(0, [0, 3]), (1, [4])]
def m66 : MC :=
  (.seq
 (.reg false [0, 3] [⟨(some 3), none, true, .box (.t 1)⟩,
 ⟨(some 4), none, false, .mov (.k (.d (.int .i64 0)))⟩])
 (.seq
 (.reg false [4] [⟨(some 5), none, false, .mov (.t 0)⟩,
 ⟨(some 6), none, false, .clos 120 [(.t 3)]⟩,
 ⟨(some 7), none, true, .call 119 [(.t 5), (.t 6)]⟩,
 ⟨(some 4), none, false, .mov (.t 7)⟩])
 .ret))
theorem c66 : (Go.Proofs.Try.f66).body.bind (comp prog.P (2, (Go.Proofs.Try.f66).ntmps) lv66) = some m66 := by kernel_rfl
theorem r66 : resOK prog.P (Go.Proofs.Try.f66).results.toList = true := by kernel_rfl

/-- slices.DeleteFunc[[]int,int] -/
def lv67 : List (Nat × List Nat) := [(0, [0, 1]), (1, [0, 1, 5]), (2, [0, 1, 5, 12]), (3, [0, 4]), (4, [0, 1, 5, 6]), (5, [0, 1, 5, 6, 19]), (6, [0, 1, 5, 6]), (7, [0, 1, 5, 6, 7]), (8, [0, 1, 5, 6, 7, 29]), (9, [0, 1, 5, 6]), (10, [0, 1, 5, 6]), (11, [0, 5]), (12, [0, 4])]
def m67 : MC :=
  (.seq
 (.reg false [0, 1] [⟨(some 4), none, false, .mov (.k .nil)⟩])
 (.seq
 (.reg false [0, 1, 5] [⟨(some 8), none, false, .mov (.t 0)⟩,
 ⟨(some 9), none, false, .mov (.t 1)⟩,
 ⟨(some 10), none, true, .call 121 [(.t 8), (.t 9)]⟩,
 ⟨(some 5), none, false, .mov (.t 10)⟩])
 (.seq
 (.seq
 (.reg false [0, 1, 5, 12] [⟨(some 11), none, false, .mov (.t 5)⟩,
 ⟨(some 12), none, false, .bin .eql (.t 11) (.k (.d (.int .i64 (-1))))⟩])
 (.cond (.t 12)
 (.seq
 (.reg false [0, 4] [⟨(some 13), none, false, .mov (.t 0)⟩,
 ⟨(some 4), none, false, .mov (.t 13)⟩])
 .ret)
 .skip))
 (.seq
 (.seq
 (.reg false [0, 1, 5, 6] [⟨(some 14), none, false, .mov (.t 5)⟩,
 ⟨(some 15), none, false, .bin .add (.t 14) (.k (.d (.int .i64 1)))⟩,
 ⟨(some 6), none, false, .mov (.t 15)⟩])
 (.block 0
 (.loop
 (.seq
 (.seq
 (.reg false [0, 1, 5, 6, 19] [⟨(some 16), none, false, .mov (.t 6)⟩,
 ⟨(some 17), none, false, .mov (.t 0)⟩,
 ⟨(some 18), none, false, .len false (.t 17)⟩,
 ⟨(some 19), none, false, .bin .lss (.t 16) (.t 18)⟩])
 (.cond (.t 19)
 .skip
 (.exit 0)))
 (.seq
 (.block 1
 (.seq
 (.reg false [0, 1, 5, 6, 7] [⟨(some 22), none, false, .mov (.t 0)⟩,
 ⟨(some 23), none, false, .mov (.t 6)⟩,
 ⟨(some 24), none, false, .ia 1 (.t 22) (.t 23)⟩,
 ⟨(some 25), none, false, .ld none (.t 24)⟩,
 ⟨(some 7), none, false, .mov (.t 25)⟩])
 (.seq
 (.reg false [0, 1, 5, 6, 7, 29] [⟨(some 26), none, false, .mov (.t 1)⟩,
 ⟨(some 27), none, false, .mov (.t 7)⟩,
 ⟨(some 28), none, true, .callW (.t 26) [(.t 27)]⟩,
 ⟨(some 29), none, false, .un .not (.t 28)⟩])
 (.cond (.t 29)
 (.seq
 (.reg false [0, 1, 5, 6] [⟨(some 30), none, false, .mov (.t 0)⟩,
 ⟨(some 31), none, false, .mov (.t 5)⟩,
 ⟨(some 32), none, false, .mov (.t 7)⟩,
 ⟨(some 33), none, false, .ia 1 (.t 30) (.t 31)⟩,
 ⟨none, none, true, .st 1 (.t 33) (.t 32)⟩])
 (.reg false [0, 1, 5, 6] [⟨(some 34), none, false, .mov (.t 5)⟩,
 ⟨(some 35), none, false, .bin .add (.t 34) (.k (.d (.int .i64 1)))⟩,
 ⟨(some 5), none, false, .mov (.t 35)⟩]))
 .skip))))
 (.reg false [0, 1, 5, 6] [⟨(some 20), none, false, .mov (.t 6)⟩,
 ⟨(some 21), none, false, .bin .add (.t 20) (.k (.d (.int .i64 1)))⟩,
 ⟨(some 6), none, false, .mov (.t 21)⟩]))))))
 (.seq
 (.reg false [0, 5] [⟨(some 36), none, false, .mov (.t 0)⟩,
 ⟨(some 37), none, false, .mov (.t 5)⟩,
 ⟨(some 38), none, false, .slx 1 (.t 36) (some (.t 37)) none⟩,
 ⟨none, none, true, .clr 1 (.int .i64 0) (.t 38)⟩])
 (.seq
 (.reg false [0, 4] [⟨(some 39), none, false, .mov (.t 0)⟩,
 ⟨(some 40), none, false, .mov (.t 5)⟩,
 ⟨(some 41), none, true, .cut 1 (.t 39) (.t 40)⟩,
 ⟨(some 4), none, false, .mov (.t 41)⟩])
 .ret))))))
theorem c67 : (Go.Proofs.Try.f67).body.bind (comp prog.P (2, (Go.Proofs.Try.f67).ntmps) lv67) = some m67 := by kernel_rfl
theorem r67 : resOK prog.P (Go.Proofs.Try.f67).results.toList = true := by kernel_rfl

end Go.Pe.Try
