/-
The compact code of the functions that the law reaches, printed by gen.py, each with the proof that the machine's code is compiled to it.
-/
import Derived.Test.YtbkjloohaahmdaaMc1
import Derived.Test.YtbkjloohaahmdaaProg
import Derived.KernelRfl
set_option maxRecDepth 100000
namespace Go.Pe.Try
open Go.Pe

/-- laws.rAppeals -/
def lv38 : List (Nat × List Nat) := [(0, [0, 1]), (1, [0, 1, 10]), (2, [4]), (3, [0, 1, 5]), (4, [0, 1, 5, 14]), (5, [0, 1, 5]), (6, [0, 1, 5, 94]), (7, [4]), (8, [4])]
def m38 : MC :=
  (.seq
 (.reg false [0, 1] [⟨(some 4), none, false, .mov (.k (.d (.bool false)))⟩])
 (.seq
 (.seq
 (.reg false [0, 1, 10] [⟨(some 6), none, false, .mov (.t 0)⟩,
 ⟨(some 7), none, false, .len false (.t 6)⟩,
 ⟨(some 8), none, false, .mov (.t 1)⟩,
 ⟨(some 9), none, false, .len false (.t 8)⟩,
 ⟨(some 10), none, false, .bin .neq (.t 7) (.t 9)⟩])
 (.cond (.t 10)
 (.seq
 (.reg false [4] [⟨(some 4), none, false, .mov (.k (.d (.bool false)))⟩])
 .ret)
 .skip))
 (.seq
 (.seq
 (.reg false [0, 1, 5] [⟨(some 5), none, false, .mov (.k (.d (.int .i64 0)))⟩])
 (.block 0
 (.loop
 (.seq
 (.seq
 (.reg false [0, 1, 5, 14] [⟨(some 11), none, false, .mov (.t 5)⟩,
 ⟨(some 12), none, false, .mov (.t 0)⟩,
 ⟨(some 13), none, false, .len false (.t 12)⟩,
 ⟨(some 14), none, false, .bin .lss (.t 11) (.t 13)⟩])
 (.cond (.t 14)
 .skip
 (.exit 0)))
 (.seq
 (.block 1
 (.seq
 (.reg true [0, 1, 5, 94] [⟨(some 17), none, false, .mov (.t 0)⟩,
 ⟨(some 18), none, false, .mov (.t 5)⟩,
 ⟨(some 19), none, false, .ia 6 (.t 17) (.t 18)⟩,
 ⟨(some 20), none, false, .fa 0 0 (.t 19)⟩,
 ⟨(some 21), none, false, .ld none (.t 20)⟩,
 ⟨(some 22), none, false, .mov (.t 1)⟩,
 ⟨(some 23), none, false, .mov (.t 5)⟩,
 ⟨(some 24), none, false, .ia 6 (.t 22) (.t 23)⟩,
 ⟨(some 25), none, false, .fa 0 0 (.t 24)⟩,
 ⟨(some 26), none, false, .ld none (.t 25)⟩,
 ⟨(some 27), none, false, .bin .neq (.t 21) (.t 26)⟩,
 ⟨(some 28), none, false, .mov (.t 27)⟩,
 ⟨(some 29), (some (28, false)), false, .mov (.t 0)⟩,
 ⟨(some 30), (some (28, false)), false, .mov (.t 5)⟩,
 ⟨(some 31), (some (28, false)), false, .ia 6 (.t 29) (.t 30)⟩,
 ⟨(some 32), (some (28, false)), false, .fa 1 1 (.t 31)⟩,
 ⟨(some 33), (some (28, false)), false, .ld none (.t 32)⟩,
 ⟨(some 34), (some (28, false)), false, .mov (.t 1)⟩,
 ⟨(some 35), (some (28, false)), false, .mov (.t 5)⟩,
 ⟨(some 36), (some (28, false)), false, .ia 6 (.t 34) (.t 35)⟩,
 ⟨(some 37), (some (28, false)), false, .fa 1 1 (.t 36)⟩,
 ⟨(some 38), (some (28, false)), false, .ld none (.t 37)⟩,
 ⟨(some 39), (some (28, false)), false, .bin .neq (.t 33) (.t 38)⟩,
 ⟨(some 40), none, false, .pick (.t 28) (.k (.d (.bool true))) (.t 39)⟩,
 ⟨(some 41), none, false, .mov (.t 40)⟩,
 ⟨(some 42), (some (41, false)), false, .mov (.t 0)⟩,
 ⟨(some 43), (some (41, false)), false, .mov (.t 5)⟩,
 ⟨(some 44), (some (41, false)), false, .ia 6 (.t 42) (.t 43)⟩,
 ⟨(some 45), (some (41, false)), false, .fa 2 2 (.t 44)⟩,
 ⟨(some 46), (some (41, false)), false, .ld none (.t 45)⟩,
 ⟨(some 47), (some (41, false)), false, .mov (.t 1)⟩,
 ⟨(some 48), (some (41, false)), false, .mov (.t 5)⟩,
 ⟨(some 49), (some (41, false)), false, .ia 6 (.t 47) (.t 48)⟩,
 ⟨(some 50), (some (41, false)), false, .fa 2 2 (.t 49)⟩,
 ⟨(some 51), (some (41, false)), false, .ld none (.t 50)⟩,
 ⟨(some 52), (some (41, false)), false, .bin .neq (.t 46) (.t 51)⟩,
 ⟨(some 53), none, false, .pick (.t 41) (.k (.d (.bool true))) (.t 52)⟩,
 ⟨(some 54), none, false, .mov (.t 53)⟩,
 ⟨(some 55), (some (54, false)), false, .mov (.t 0)⟩,
 ⟨(some 56), (some (54, false)), false, .mov (.t 5)⟩,
 ⟨(some 57), (some (54, false)), false, .ia 6 (.t 55) (.t 56)⟩,
 ⟨(some 58), (some (54, false)), false, .fa 5 5 (.t 57)⟩,
 ⟨(some 59), (some (54, false)), false, .ld none (.t 58)⟩,
 ⟨(some 60), (some (54, false)), false, .mov (.t 1)⟩,
 ⟨(some 61), (some (54, false)), false, .mov (.t 5)⟩,
 ⟨(some 62), (some (54, false)), false, .ia 6 (.t 60) (.t 61)⟩,
 ⟨(some 63), (some (54, false)), false, .fa 5 5 (.t 62)⟩,
 ⟨(some 64), (some (54, false)), false, .ld none (.t 63)⟩,
 ⟨(some 65), (some (54, false)), false, .bin .neq (.t 59) (.t 64)⟩,
 ⟨(some 66), none, false, .pick (.t 54) (.k (.d (.bool true))) (.t 65)⟩,
 ⟨(some 67), none, false, .mov (.t 66)⟩,
 ⟨(some 68), (some (67, false)), false, .mov (.t 0)⟩,
 ⟨(some 69), (some (67, false)), false, .mov (.t 5)⟩,
 ⟨(some 70), (some (67, false)), false, .ia 6 (.t 68) (.t 69)⟩,
 ⟨(some 71), (some (67, false)), false, .fa 3 3 (.t 70)⟩,
 ⟨(some 72), (some (67, false)), false, .ld none (.t 71)⟩,
 ⟨(some 73), (some (67, false)), false, .mov (.t 1)⟩,
 ⟨(some 74), (some (67, false)), false, .mov (.t 5)⟩,
 ⟨(some 75), (some (67, false)), false, .ia 6 (.t 73) (.t 74)⟩,
 ⟨(some 76), (some (67, false)), false, .fa 3 3 (.t 75)⟩,
 ⟨(some 77), (some (67, false)), false, .ld none (.t 76)⟩,
 ⟨(some 78), (some (67, false)), false, .callP 27 [(.t 72), (.t 77)]⟩,
 ⟨(some 79), (some (67, false)), false, .un .not (.t 78)⟩,
 ⟨(some 80), none, false, .pick (.t 67) (.k (.d (.bool true))) (.t 79)⟩,
 ⟨(some 81), none, false, .mov (.t 80)⟩,
 ⟨(some 82), (some (81, false)), false, .mov (.t 0)⟩,
 ⟨(some 83), (some (81, false)), false, .mov (.t 5)⟩,
 ⟨(some 84), (some (81, false)), false, .ia 6 (.t 82) (.t 83)⟩,
 ⟨(some 85), (some (81, false)), false, .fa 4 4 (.t 84)⟩,
 ⟨(some 86), (some (81, false)), false, .ld none (.t 85)⟩,
 ⟨(some 87), (some (81, false)), false, .mov (.t 1)⟩,
 ⟨(some 88), (some (81, false)), false, .mov (.t 5)⟩,
 ⟨(some 89), (some (81, false)), false, .ia 6 (.t 87) (.t 88)⟩,
 ⟨(some 90), (some (81, false)), false, .fa 4 4 (.t 89)⟩,
 ⟨(some 91), (some (81, false)), false, .ld none (.t 90)⟩,
 ⟨(some 92), (some (81, false)), false, .callP 27 [(.t 86), (.t 91)]⟩,
 ⟨(some 93), (some (81, false)), false, .un .not (.t 92)⟩,
 ⟨(some 94), none, false, .pick (.t 81) (.k (.d (.bool true))) (.t 93)⟩])
 (.cond (.t 94)
 (.seq
 (.reg false [4] [⟨(some 4), none, false, .mov (.k (.d (.bool false)))⟩])
 .ret)
 .skip)))
 (.reg false [0, 1, 5] [⟨(some 15), none, false, .mov (.t 5)⟩,
 ⟨(some 16), none, false, .bin .add (.t 15) (.k (.d (.int .i64 1)))⟩,
 ⟨(some 5), none, false, .mov (.t 16)⟩]))))))
 (.seq
 (.reg false [4] [⟨(some 4), none, false, .mov (.k (.d (.bool true)))⟩])
 .ret))))
theorem c38 : (Go.Proofs.Try.f38).body.bind (comp prog.P (2, (Go.Proofs.Try.f38).ntmps) lv38) = some m38 := by kernel_rfl
theorem r38 : resOK prog.P (Go.Proofs.Try.f38).results.toList = true := by kernel_rfl

/-- spec.DrawDaysLeft -/
def lv39 : List (Nat × List Nat) := [(0, [0]), (1, [5]), (2, [5, 6]), (3, [2, 3, 4])]
def m39 : MC :=
  (.seq
 (.reg false [0] [⟨(some 2), none, false, .mov (.k .nil)⟩,
 ⟨(some 3), none, false, .mov (.k (.d (.int .i64 0)))⟩,
 ⟨(some 4), none, false, .mov (.k (.d (.int .i64 0)))⟩])
 (.seq
 (.reg false [5] [⟨(some 7), none, false, .mov (.t 0)⟩,
 ⟨(some 8), none, true, .bld (.cons (.sl true 1 .nil) (.cons (.int .i64 0) (.cons (.int .u64 0) .nil))) [(0, (.t 7))]⟩,
 ⟨(some 9), none, true, .box (.t 8)⟩,
 ⟨(some 5), none, false, .mov (.t 9)⟩])
 (.seq
 (.reg false [5, 6] [⟨(some 10), none, false, .mov (.t 5)⟩,
 ⟨(some 11), none, true, .call 84 [(.t 10)]⟩,
 ⟨(some 6), none, false, .mov (.t 11)⟩])
 (.seq
 (.reg false [2, 3, 4] [⟨(some 12), none, false, .mov (.t 6)⟩,
 ⟨(some 13), none, false, .mov (.t 5)⟩,
 ⟨(some 14), none, false, .mov (.t 6)⟩,
 ⟨(some 15), none, true, .call 98 [(.t 13), (.t 14), (.k (.d (.int .i64 0)))]⟩,
 ⟨(some 16), none, false, .mov (.t 5)⟩,
 ⟨(some 17), none, true, .call 93 [(.t 16)]⟩,
 ⟨(some 2), none, false, .mov (.t 12)⟩,
 ⟨(some 3), none, false, .mov (.t 15)⟩,
 ⟨(some 4), none, false, .mov (.t 17)⟩])
 .ret))))
theorem c39 : (Go.Proofs.Try.f39).body.bind (comp prog.P (1, (Go.Proofs.Try.f39).ntmps) lv39) = some m39 := by kernel_rfl
theorem r39 : resOK prog.P (Go.Proofs.Try.f39).results.toList = true := by kernel_rfl

/-- impl.DaysLeft -/
def lv40 : List (Nat × List Nat) := [(0, [0, 1, 2]), (1, [0, 2, 8]), (2, [0, 2, 8, 36]), (3, [6, 7]), (4, [6, 7])]
def m40 : MC :=
  (.seq
 (.reg false [0, 1, 2] [⟨(some 6), none, false, .mov (.k (.d (.int .i64 0)))⟩,
 ⟨(some 7), none, false, .mov (.k (.d (.bool false)))⟩])
 (.seq
 (.reg false [0, 2, 8] [⟨(some 9), none, false, .mov (.t 0)⟩,
 ⟨(some 10), none, false, .mov (.t 1)⟩,
 ⟨(some 11), none, true, .call 66 [(.t 9), (.t 10)]⟩,
 ⟨(some 8), none, false, .mov (.t 11)⟩])
 (.seq
 (.seq
 (.reg false [0, 2, 8, 36] [⟨(some 12), none, false, .mov (.t 0)⟩,
 ⟨(some 13), none, true, .call 51 [(.t 12)]⟩,
 ⟨(some 14), none, false, .un .not (.t 13)⟩,
 ⟨(some 15), none, false, .mov (.t 14)⟩,
 ⟨(some 16), (some (15, false)), false, .mov (.t 8)⟩,
 ⟨(some 17), (some (15, false)), false, .bin .lss (.t 16) (.k (.d (.int .i64 0)))⟩,
 ⟨(some 18), none, false, .pick (.t 15) (.k (.d (.bool true))) (.t 17)⟩,
 ⟨(some 19), none, false, .mov (.t 18)⟩,
 ⟨(some 20), (some (19, false)), false, .mov (.t 0)⟩,
 ⟨(some 21), (some (19, false)), false, .mov (.t 8)⟩,
 ⟨(some 22), (some (19, false)), false, .ia 6 (.t 20) (.t 21)⟩,
 ⟨(some 23), (some (19, false)), false, .fa 5 5 (.t 22)⟩,
 ⟨(some 24), (some (19, false)), false, .ld none (.t 23)⟩,
 ⟨(some 25), (some (19, false)), false, .bin .neq (.t 24) (.k (.d (.int .i64 0)))⟩,
 ⟨(some 26), none, false, .pick (.t 19) (.k (.d (.bool true))) (.t 25)⟩,
 ⟨(some 27), none, false, .mov (.t 26)⟩,
 ⟨(some 28), (some (27, false)), false, .mov (.t 0)⟩,
 ⟨(some 29), (some (27, false)), false, .mov (.t 8)⟩,
 ⟨(some 30), (some (27, false)), false, .ia 6 (.t 28) (.t 29)⟩,
 ⟨(some 31), (some (27, false)), false, .fa 2 2 (.t 30)⟩,
 ⟨(some 32), (some (27, false)), false, .ld none (.t 31)⟩,
 ⟨(some 33), (some (27, false)), false, .mov (.t 2)⟩,
 ⟨(some 34), (some (27, false)), true, .call 99 [(.t 32), (.t 33)]⟩,
 ⟨(some 35), (some (27, false)), false, .un .not (.t 34)⟩,
 ⟨(some 36), none, false, .pick (.t 27) (.k (.d (.bool true))) (.t 35)⟩])
 (.cond (.t 36)
 (.seq
 (.reg false [6, 7] [⟨(some 6), none, false, .mov (.k (.d (.int .i64 0)))⟩,
 ⟨(some 7), none, false, .mov (.k (.d (.bool false)))⟩])
 .ret)
 .skip))
 (.seq
 (.reg false [6, 7] [⟨(some 37), none, false, .mov (.t 2)⟩,
 ⟨(some 38), none, false, .mov (.t 0)⟩,
 ⟨(some 39), none, false, .mov (.t 8)⟩,
 ⟨(some 40), none, false, .ia 6 (.t 38) (.t 39)⟩,
 ⟨(some 41), none, false, .fa 2 2 (.t 40)⟩,
 ⟨(some 42), none, false, .ld none (.t 41)⟩,
 ⟨(some 43), none, false, .bin .sub (.t 37) (.t 42)⟩,
 ⟨(some 44), none, false, .bin .sub (.k (.d (.int .i64 60))) (.t 43)⟩,
 ⟨(some 45), none, false, .mx true (.t 44) (.k (.d (.int .i64 0)))⟩,
 ⟨(some 6), none, false, .mov (.t 45)⟩,
 ⟨(some 7), none, false, .mov (.k (.d (.bool true)))⟩])
 .ret))))
theorem c40 : (Go.Proofs.Try.f40).body.bind (comp prog.P (3, (Go.Proofs.Try.f40).ntmps) lv40) = some m40 := by kernel_rfl
theorem r40 : resOK prog.P (Go.Proofs.Try.f40).results.toList = true := by kernel_rfl

/-- spec.DaysLeft -/
def lv41 : List (Nat × List Nat) := [(0, [0, 1, 2]), (1, [0, 2, 8]), (2, [0, 2, 8, 40]), (3, [6, 7]), (4, [6, 7])]
def m41 : MC :=
  (.seq
 (.reg false [0, 1, 2] [⟨(some 6), none, false, .mov (.k (.d (.int .i64 0)))⟩,
 ⟨(some 7), none, false, .mov (.k (.d (.bool false)))⟩])
 (.seq
 (.reg false [0, 2, 8] [⟨(some 9), none, false, .mov (.t 0)⟩,
 ⟨(some 10), none, false, .mov (.t 1)⟩,
 ⟨(some 11), none, true, .call 62 [(.t 9), (.t 10)]⟩,
 ⟨(some 8), none, false, .mov (.t 11)⟩])
 (.seq
 (.seq
 (.reg false [0, 2, 8, 40] [⟨(some 12), none, false, .mov (.t 0)⟩,
 ⟨(some 13), none, true, .call 63 [(.t 12)]⟩,
 ⟨(some 14), none, false, .un .not (.t 13)⟩,
 ⟨(some 15), none, false, .mov (.t 14)⟩,
 ⟨(some 16), (some (15, false)), false, .mov (.t 8)⟩,
 ⟨(some 17), (some (15, false)), false, .bin .lss (.t 16) (.k (.d (.int .i64 0)))⟩,
 ⟨(some 18), none, false, .pick (.t 15) (.k (.d (.bool true))) (.t 17)⟩,
 ⟨(some 19), none, false, .mov (.t 18)⟩,
 ⟨(some 20), (some (19, false)), false, .mov (.t 0)⟩,
 ⟨(some 21), (some (19, false)), false, .mov (.t 8)⟩,
 ⟨(some 22), (some (19, false)), false, .ia 6 (.t 20) (.t 21)⟩,
 ⟨(some 23), (some (19, false)), false, .fa 5 5 (.t 22)⟩,
 ⟨(some 24), (some (19, false)), false, .ld none (.t 23)⟩,
 ⟨(some 25), (some (19, false)), false, .bin .neq (.t 24) (.k (.d (.int .i64 0)))⟩,
 ⟨(some 26), none, false, .pick (.t 19) (.k (.d (.bool true))) (.t 25)⟩,
 ⟨(some 27), none, false, .mov (.t 26)⟩,
 ⟨(some 28), (some (27, false)), false, .mov (.t 2)⟩,
 ⟨(some 29), (some (27, false)), true, .call 96 [(.t 28)]⟩,
 ⟨(some 30), (some (27, false)), false, .un .not (.t 29)⟩,
 ⟨(some 31), none, false, .pick (.t 27) (.k (.d (.bool true))) (.t 30)⟩,
 ⟨(some 32), none, false, .mov (.t 31)⟩,
 ⟨(some 33), (some (32, false)), false, .mov (.t 2)⟩,
 ⟨(some 34), (some (32, false)), false, .mov (.t 0)⟩,
 ⟨(some 35), (some (32, false)), false, .mov (.t 8)⟩,
 ⟨(some 36), (some (32, false)), false, .ia 6 (.t 34) (.t 35)⟩,
 ⟨(some 37), (some (32, false)), false, .fa 2 2 (.t 36)⟩,
 ⟨(some 38), (some (32, false)), false, .ld none (.t 37)⟩,
 ⟨(some 39), (some (32, false)), false, .bin .lss (.t 33) (.t 38)⟩,
 ⟨(some 40), none, false, .pick (.t 32) (.k (.d (.bool true))) (.t 39)⟩])
 (.cond (.t 40)
 (.seq
 (.reg false [6, 7] [⟨(some 6), none, false, .mov (.k (.d (.int .i64 0)))⟩,
 ⟨(some 7), none, false, .mov (.k (.d (.bool false)))⟩])
 .ret)
 .skip))
 (.seq
 (.reg false [6, 7] [⟨(some 41), none, false, .mov (.t 2)⟩,
 ⟨(some 42), none, false, .bin .sub (.k (.d (.int .i64 60))) (.t 41)⟩,
 ⟨(some 43), none, false, .mov (.t 0)⟩,
 ⟨(some 44), none, false, .mov (.t 8)⟩,
 ⟨(some 45), none, false, .ia 6 (.t 43) (.t 44)⟩,
 ⟨(some 46), none, false, .fa 2 2 (.t 45)⟩,
 ⟨(some 47), none, false, .ld none (.t 46)⟩,
 ⟨(some 48), none, false, .bin .add (.t 42) (.t 47)⟩,
 ⟨(some 49), none, true, .call 100 [(.k (.d (.int .i64 0))), (.t 48)]⟩,
 ⟨(some 6), none, false, .mov (.t 49)⟩,
 ⟨(some 7), none, false, .mov (.k (.d (.bool true)))⟩])
 .ret))))
theorem c41 : (Go.Proofs.Try.f41).body.bind (comp prog.P (3, (Go.Proofs.Try.f41).ntmps) lv41) = some m41 := by kernel_rfl
theorem r41 : resOK prog.P (Go.Proofs.Try.f41).results.toList = true := by kernel_rfl

/-- spec.DrawBusiestParty -/
def lv42 : List (Nat × List Nat) := [(0, [0]), (1, [2])]
def m42 : MC :=
  (.seq
 (.reg false [0] [⟨(some 2), none, false, .mov (.k .nil)⟩])
 (.seq
 (.reg false [2] [⟨(some 3), none, false, .mov (.t 0)⟩,
 ⟨(some 4), none, true, .call 101 [(.t 3)]⟩,
 ⟨(some 2), none, false, .mov (.t 4)⟩])
 .ret))
theorem c42 : (Go.Proofs.Try.f42).body.bind (comp prog.P (1, (Go.Proofs.Try.f42).ntmps) lv42) = some m42 := by kernel_rfl
theorem r42 : resOK prog.P (Go.Proofs.Try.f42).results.toList = true := by kernel_rfl

/-- impl.BusiestParty -/
def lv43 : List (Nat × List Nat) := [(0, [0]), (1, [0, 13]), (2, [2, 3, 4]), (3, [0, 5, 6]), (4, [0, 5, 6, 7]), (5, [0, 5, 6, 7, 15]), (6, [0, 5, 6, 7]), (7, [0, 5, 6, 7, 8]), (8, [0, 5, 6, 7, 8, 18, 19, 20]), (9, [0, 5, 6, 7, 8, 18, 19, 20, 21]), (10, [0, 5, 6, 7, 8, 10, 18, 19, 20]), (11, [0, 5, 6, 7, 8, 18, 19, 20, 27]), (12, [0, 5, 6, 7, 8, 18, 19, 20]), (13, [0, 5, 6, 7, 8, 18, 19, 20]), (14, [0, 5, 6, 7, 8, 33]), (15, [0, 5, 6, 7]), (16, [2, 3, 4])]
def m43 : MC :=
  (.seq
 (.reg false [0] [⟨(some 2), none, false, .mov (.k (.d (.int .i64 0)))⟩,
 ⟨(some 3), none, false, .mov (.k (.d (.int .i64 0)))⟩,
 ⟨(some 4), none, false, .mov (.k (.d (.bool false)))⟩])
 (.seq
 (.seq
 (.reg false [0, 13] [⟨(some 11), none, false, .mov (.t 0)⟩,
 ⟨(some 12), none, true, .call 51 [(.t 11)]⟩,
 ⟨(some 13), none, false, .un .not (.t 12)⟩])
 (.cond (.t 13)
 (.seq
 (.reg false [2, 3, 4] [⟨(some 2), none, false, .mov (.k (.d (.int .i64 0)))⟩,
 ⟨(some 3), none, false, .mov (.k (.d (.int .i64 0)))⟩,
 ⟨(some 4), none, false, .mov (.k (.d (.bool false)))⟩])
 .ret)
 .skip))
 (.seq
 (.reg false [0, 5, 6] [⟨(some 5), none, false, .mov (.k (.d (.int .i64 0)))⟩,
 ⟨(some 6), none, false, .mov (.k (.d (.int .i64 0)))⟩])
 (.seq
 (.seq
 (.reg false [0, 5, 6, 7] [⟨(some 7), none, false, .mov (.k (.d (.int .i64 1)))⟩])
 (.block 0
 (.loop
 (.seq
 (.seq
 (.reg false [0, 5, 6, 7, 15] [⟨(some 14), none, false, .mov (.t 7)⟩,
 ⟨(some 15), none, false, .bin .leq (.t 14) (.k (.d (.int .i64 50)))⟩])
 (.cond (.t 15)
 .skip
 (.exit 0)))
 (.seq
 (.block 1
 (.seq
 (.reg false [0, 5, 6, 7, 8] [⟨(some 8), none, false, .mov (.k (.d (.int .i64 0)))⟩])
 (.seq
 (.seq
 (.reg false [0, 5, 6, 7, 8, 18, 19, 20] [⟨(some 18), none, false, .mov (.t 0)⟩,
 ⟨(some 19), none, false, .len false (.t 18)⟩,
 ⟨(some 20), none, false, .mov (.k (.d (.int .i64 0)))⟩])
 (.block 2
 (.loop
 (.seq
 (.reg false [0, 5, 6, 7, 8, 18, 19, 20, 21] [⟨(some 21), none, false, .bin .lss (.t 20) (.t 19)⟩])
 (.seq
 (.cond (.t 21)
 .skip
 (.exit 2))
 (.seq
 (.block 3
 (.seq
 (.reg false [0, 5, 6, 7, 8, 10, 18, 19, 20] [⟨(some 22), none, false, .ia 6 (.t 18) (.t 20)⟩,
 ⟨(some 23), none, false, .ld (some 6) (.t 22)⟩,
 ⟨(some 10), none, true, .alloc (.st (.cons (.int .i64 0) (.cons (.int .i64 0) (.cons (.int .i64 0) (.cons (.sl true 1 .nil) (.cons (.sl true 1 .nil) (.cons (.int .i64 0) .nil)))))))⟩,
 ⟨none, none, true, .st 6 (.t 10) (.t 23)⟩])
 (.seq
 (.reg false [0, 5, 6, 7, 8, 18, 19, 20, 27] [⟨(some 24), none, false, .fa 3 3 (.t 10)⟩,
 ⟨(some 25), none, false, .ld none (.t 24)⟩,
 ⟨(some 26), none, false, .mov (.t 7)⟩,
 ⟨(some 27), none, true, .call 70 [(.t 25), (.t 26)]⟩])
 (.cond (.t 27)
 (.reg false [0, 5, 6, 7, 8, 18, 19, 20] [⟨(some 28), none, false, .mov (.t 8)⟩,
 ⟨(some 29), none, false, .bin .add (.t 28) (.k (.d (.int .i64 1)))⟩,
 ⟨(some 8), none, false, .mov (.t 29)⟩])
 .skip))))
 (.reg false [0, 5, 6, 7, 8, 18, 19, 20] [⟨(some 30), none, false, .bin .add (.t 20) (.k (.d (.int .i64 1)))⟩,
 ⟨(some 20), none, false, .mov (.t 30)⟩])))))))
 (.seq
 (.reg false [0, 5, 6, 7, 8, 33] [⟨(some 31), none, false, .mov (.t 8)⟩,
 ⟨(some 32), none, false, .mov (.t 6)⟩,
 ⟨(some 33), none, false, .bin .gtr (.t 31) (.t 32)⟩])
 (.cond (.t 33)
 (.reg false [0, 5, 6, 7] [⟨(some 34), none, false, .mov (.t 7)⟩,
 ⟨(some 35), none, false, .mov (.t 8)⟩,
 ⟨(some 5), none, false, .mov (.t 34)⟩,
 ⟨(some 6), none, false, .mov (.t 35)⟩])
 .skip)))))
 (.reg false [0, 5, 6, 7] [⟨(some 16), none, false, .mov (.t 7)⟩,
 ⟨(some 17), none, false, .bin .add (.t 16) (.k (.d (.int .i64 1)))⟩,
 ⟨(some 7), none, false, .mov (.t 17)⟩]))))))
 (.seq
 (.reg false [2, 3, 4] [⟨(some 36), none, false, .mov (.t 5)⟩,
 ⟨(some 37), none, false, .mov (.t 6)⟩,
 ⟨(some 38), none, false, .mov (.t 6)⟩,
 ⟨(some 39), none, false, .bin .gtr (.t 38) (.k (.d (.int .i64 0)))⟩,
 ⟨(some 2), none, false, .mov (.t 36)⟩,
 ⟨(some 3), none, false, .mov (.t 37)⟩,
 ⟨(some 4), none, false, .mov (.t 39)⟩])
 .ret)))))
theorem c43 : (Go.Proofs.Try.f43).body.bind (comp prog.P (1, (Go.Proofs.Try.f43).ntmps) lv43) = some m43 := by kernel_rfl
theorem r43 : resOK prog.P (Go.Proofs.Try.f43).results.toList = true := by kernel_rfl

/-- spec.BusiestParty -/
def lv44 : List (Nat × List Nat) := [(0, [0]), (1, [0, 12]), (2, [2, 3, 4]), (3, [0, 5, 6]), (4, [0, 5, 6, 7]), (5, [0, 5, 6, 7, 14]), (6, [0, 5, 6, 7]), (7, [0, 5, 6, 7, 8]), (8, [0, 5, 6, 7, 8, 9]), (9, [0, 5, 6, 7, 8, 9, 20]), (10, [0, 5, 6, 7, 8, 9]), (11, [0, 5, 6, 7, 8, 9, 29]), (12, [0, 5, 6, 7, 8, 9]), (13, [0, 5, 6, 7, 8, 34]), (14, [0, 5, 7, 8]), (15, [0, 5, 6, 7]), (16, [2, 3, 4])]
def m44 : MC :=
  (.seq
 (.reg false [0] [⟨(some 2), none, false, .mov (.k (.d (.int .i64 0)))⟩,
 ⟨(some 3), none, false, .mov (.k (.d (.int .i64 0)))⟩,
 ⟨(some 4), none, false, .mov (.k (.d (.bool false)))⟩])
 (.seq
 (.seq
 (.reg false [0, 12] [⟨(some 10), none, false, .mov (.t 0)⟩,
 ⟨(some 11), none, true, .call 63 [(.t 10)]⟩,
 ⟨(some 12), none, false, .un .not (.t 11)⟩])
 (.cond (.t 12)
 (.seq
 (.reg false [2, 3, 4] [⟨(some 2), none, false, .mov (.k (.d (.int .i64 0)))⟩,
 ⟨(some 3), none, false, .mov (.k (.d (.int .i64 0)))⟩,
 ⟨(some 4), none, false, .mov (.k (.d (.bool false)))⟩])
 .ret)
 .skip))
 (.seq
 (.reg false [0, 5, 6] [⟨(some 5), none, false, .mov (.k (.d (.int .i64 0)))⟩,
 ⟨(some 6), none, false, .mov (.k (.d (.int .i64 0)))⟩])
 (.seq
 (.seq
 (.reg false [0, 5, 6, 7] [⟨(some 7), none, false, .mov (.k (.d (.int .i64 1)))⟩])
 (.block 0
 (.loop
 (.seq
 (.seq
 (.reg false [0, 5, 6, 7, 14] [⟨(some 13), none, false, .mov (.t 7)⟩,
 ⟨(some 14), none, false, .bin .leq (.t 13) (.k (.d (.int .i64 50)))⟩])
 (.cond (.t 14)
 .skip
 (.exit 0)))
 (.seq
 (.block 1
 (.seq
 (.reg false [0, 5, 6, 7, 8] [⟨(some 8), none, false, .mov (.k (.d (.int .i64 0)))⟩])
 (.seq
 (.seq
 (.reg false [0, 5, 6, 7, 8, 9] [⟨(some 9), none, false, .mov (.k (.d (.int .i64 0)))⟩])
 (.block 2
 (.loop
 (.seq
 (.seq
 (.reg false [0, 5, 6, 7, 8, 9, 20] [⟨(some 17), none, false, .mov (.t 9)⟩,
 ⟨(some 18), none, false, .mov (.t 0)⟩,
 ⟨(some 19), none, false, .len false (.t 18)⟩,
 ⟨(some 20), none, false, .bin .lss (.t 17) (.t 19)⟩])
 (.cond (.t 20)
 .skip
 (.exit 2)))
 (.seq
 (.block 3
 (.seq
 (.reg false [0, 5, 6, 7, 8, 9, 29] [⟨(some 23), none, false, .mov (.t 0)⟩,
 ⟨(some 24), none, false, .mov (.t 9)⟩,
 ⟨(some 25), none, false, .ia 6 (.t 23) (.t 24)⟩,
 ⟨(some 26), none, false, .fa 3 3 (.t 25)⟩,
 ⟨(some 27), none, false, .ld none (.t 26)⟩,
 ⟨(some 28), none, false, .mov (.t 7)⟩,
 ⟨(some 29), none, true, .call 64 [(.t 27), (.t 28)]⟩])
 (.cond (.t 29)
 (.reg false [0, 5, 6, 7, 8, 9] [⟨(some 30), none, false, .mov (.t 8)⟩,
 ⟨(some 31), none, false, .bin .add (.t 30) (.k (.d (.int .i64 1)))⟩,
 ⟨(some 8), none, false, .mov (.t 31)⟩])
 .skip)))
 (.reg false [0, 5, 6, 7, 8, 9] [⟨(some 21), none, false, .mov (.t 9)⟩,
 ⟨(some 22), none, false, .bin .add (.t 21) (.k (.d (.int .i64 1)))⟩,
 ⟨(some 9), none, false, .mov (.t 22)⟩]))))))
 (.seq
 (.reg false [0, 5, 6, 7, 8, 34] [⟨(some 32), none, false, .mov (.t 8)⟩,
 ⟨(some 33), none, false, .mov (.t 6)⟩,
 ⟨(some 34), none, false, .bin .gtr (.t 32) (.t 33)⟩])
 (.cond (.t 34)
 (.seq
 (.reg false [0, 5, 7, 8] [⟨(some 35), none, false, .mov (.t 7)⟩,
 ⟨(some 5), none, false, .mov (.t 35)⟩])
 (.reg false [0, 5, 6, 7] [⟨(some 36), none, false, .mov (.t 8)⟩,
 ⟨(some 6), none, false, .mov (.t 36)⟩]))
 .skip)))))
 (.reg false [0, 5, 6, 7] [⟨(some 15), none, false, .mov (.t 7)⟩,
 ⟨(some 16), none, false, .bin .add (.t 15) (.k (.d (.int .i64 1)))⟩,
 ⟨(some 7), none, false, .mov (.t 16)⟩]))))))
 (.seq
 (.reg false [2, 3, 4] [⟨(some 37), none, false, .mov (.t 5)⟩,
 ⟨(some 38), none, false, .mov (.t 6)⟩,
 ⟨(some 39), none, false, .mov (.t 6)⟩,
 ⟨(some 40), none, false, .bin .gtr (.t 39) (.k (.d (.int .i64 0)))⟩,
 ⟨(some 2), none, false, .mov (.t 37)⟩,
 ⟨(some 3), none, false, .mov (.t 38)⟩,
 ⟨(some 4), none, false, .mov (.t 40)⟩])
 .ret)))))
theorem c44 : (Go.Proofs.Try.f44).body.bind (comp prog.P (1, (Go.Proofs.Try.f44).ntmps) lv44) = some m44 := by kernel_rfl
theorem r44 : resOK prog.P (Go.Proofs.Try.f44).results.toList = true := by kernel_rfl

/-- impl.WonShare -/
def lv45 : List (Nat × List Nat) := [(0, [0]), (1, [0, 5, 6]), (2, [0, 5, 6, 11, 12, 13]), (3, [0, 5, 6, 11, 12, 13, 14]), (4, [0, 5, 6, 8, 11, 12, 13]), (5, [0, 5, 6, 8, 11, 12, 13, 19]), (6, [0, 5, 6, 8, 11, 12, 13]), (7, [0, 5, 6, 11, 12, 13, 29]), (8, [0, 5, 6, 11, 12, 13]), (9, [0, 5, 6, 11, 12, 13]), (10, [5, 6, 39]), (11, [2, 3, 4]), (12, [9, 10]), (13, [2, 3, 4])]
def m45 : MC :=
  (.seq
 (.reg false [0] [⟨(some 2), none, false, .mov (.k (.d (.int .i64 0)))⟩,
 ⟨(some 3), none, false, .mov (.k (.d (.int .i64 0)))⟩,
 ⟨(some 4), none, false, .mov (.k (.d (.bool false)))⟩])
 (.seq
 (.reg false [0, 5, 6] [⟨(some 5), none, false, .mov (.k (.d (.int .i64 0)))⟩,
 ⟨(some 6), none, false, .mov (.k (.d (.int .i64 0)))⟩])
 (.seq
 (.seq
 (.reg false [0, 5, 6, 11, 12, 13] [⟨(some 11), none, false, .mov (.t 0)⟩,
 ⟨(some 12), none, false, .len false (.t 11)⟩,
 ⟨(some 13), none, false, .mov (.k (.d (.int .i64 0)))⟩])
 (.block 0
 (.loop
 (.seq
 (.reg false [0, 5, 6, 11, 12, 13, 14] [⟨(some 14), none, false, .bin .lss (.t 13) (.t 12)⟩])
 (.seq
 (.cond (.t 14)
 .skip
 (.exit 0))
 (.seq
 (.block 1
 (.seq
 (.reg false [0, 5, 6, 8, 11, 12, 13] [⟨(some 15), none, false, .ia 6 (.t 11) (.t 13)⟩,
 ⟨(some 16), none, false, .ld (some 6) (.t 15)⟩,
 ⟨(some 8), none, true, .alloc (.st (.cons (.int .i64 0) (.cons (.int .i64 0) (.cons (.int .i64 0) (.cons (.sl true 1 .nil) (.cons (.sl true 1 .nil) (.cons (.int .i64 0) .nil)))))))⟩,
 ⟨none, none, true, .st 6 (.t 8) (.t 16)⟩])
 (.seq
 (.seq
 (.reg false [0, 5, 6, 8, 11, 12, 13, 19] [⟨(some 17), none, false, .fa 5 5 (.t 8)⟩,
 ⟨(some 18), none, false, .ld none (.t 17)⟩,
 ⟨(some 19), none, false, .bin .eql (.t 18) (.k (.d (.int .i64 2)))⟩])
 (.cond (.t 19)
 (.reg false [0, 5, 6, 8, 11, 12, 13] [⟨(some 20), none, false, .mov (.t 5)⟩,
 ⟨(some 21), none, false, .bin .add (.t 20) (.k (.d (.int .i64 1)))⟩,
 ⟨(some 5), none, false, .mov (.t 21)⟩])
 .skip))
 (.seq
 (.reg false [0, 5, 6, 11, 12, 13, 29] [⟨(some 22), none, false, .fa 5 5 (.t 8)⟩,
 ⟨(some 23), none, false, .ld none (.t 22)⟩,
 ⟨(some 24), none, false, .bin .eql (.t 23) (.k (.d (.int .i64 2)))⟩,
 ⟨(some 25), none, false, .mov (.t 24)⟩,
 ⟨(some 26), (some (25, false)), false, .fa 5 5 (.t 8)⟩,
 ⟨(some 27), (some (25, false)), false, .ld none (.t 26)⟩,
 ⟨(some 28), (some (25, false)), false, .bin .eql (.t 27) (.k (.d (.int .i64 3)))⟩,
 ⟨(some 29), none, false, .pick (.t 25) (.k (.d (.bool true))) (.t 28)⟩])
 (.cond (.t 29)
 (.reg false [0, 5, 6, 11, 12, 13] [⟨(some 30), none, false, .mov (.t 6)⟩,
 ⟨(some 31), none, false, .bin .add (.t 30) (.k (.d (.int .i64 1)))⟩,
 ⟨(some 6), none, false, .mov (.t 31)⟩])
 .skip)))))
 (.reg false [0, 5, 6, 11, 12, 13] [⟨(some 32), none, false, .bin .add (.t 13) (.k (.d (.int .i64 1)))⟩,
 ⟨(some 13), none, false, .mov (.t 32)⟩])))))))
 (.seq
 (.seq
 (.reg false [5, 6, 39] [⟨(some 33), none, false, .mov (.t 0)⟩,
 ⟨(some 34), none, true, .call 51 [(.t 33)]⟩,
 ⟨(some 35), none, false, .un .not (.t 34)⟩,
 ⟨(some 36), none, false, .mov (.t 35)⟩,
 ⟨(some 37), (some (36, false)), false, .mov (.t 6)⟩,
 ⟨(some 38), (some (36, false)), false, .bin .eql (.t 37) (.k (.d (.int .i64 0)))⟩,
 ⟨(some 39), none, false, .pick (.t 36) (.k (.d (.bool true))) (.t 38)⟩])
 (.cond (.t 39)
 (.seq
 (.reg false [2, 3, 4] [⟨(some 2), none, false, .mov (.k (.d (.int .i64 0)))⟩,
 ⟨(some 3), none, false, .mov (.k (.d (.int .i64 0)))⟩,
 ⟨(some 4), none, false, .mov (.k (.d (.bool false)))⟩])
 .ret)
 .skip))
 (.seq
 (.reg false [9, 10] [⟨(some 41), none, false, .mov (.t 5)⟩,
 ⟨(some 42), none, false, .mov (.t 6)⟩,
 ⟨(some 43), none, true, .call 82 [(.t 41), (.t 42)]⟩,
 ⟨(some 40), none, false, .mov (.t 43)⟩,
 ⟨(some 44), none, false, .ext (.t 40) 0⟩,
 ⟨(some 45), none, false, .ext (.t 40) 1⟩,
 ⟨(some 9), none, false, .mov (.t 44)⟩,
 ⟨(some 10), none, false, .mov (.t 45)⟩])
 (.seq
 (.reg false [2, 3, 4] [⟨(some 46), none, false, .mov (.t 9)⟩,
 ⟨(some 47), none, false, .mov (.t 10)⟩,
 ⟨(some 2), none, false, .mov (.t 46)⟩,
 ⟨(some 3), none, false, .mov (.t 47)⟩,
 ⟨(some 4), none, false, .mov (.k (.d (.bool true)))⟩])
 .ret))))))
theorem c45 : (Go.Proofs.Try.f45).body.bind (comp prog.P (1, (Go.Proofs.Try.f45).ntmps) lv45) = some m45 := by kernel_rfl
theorem r45 : resOK prog.P (Go.Proofs.Try.f45).results.toList = true := by kernel_rfl

/-- spec.WonShare -/
def lv46 : List (Nat × List Nat) := [(0, [0]), (1, [0, 12]), (2, [2, 3, 4]), (3, [0, 5, 6]), (4, [0, 5, 6, 7]), (5, [0, 5, 6, 7, 16]), (6, [0, 5, 6, 7]), (7, [0, 5, 6, 7, 23]), (8, [0, 5, 6, 7, 23, 24]), (9, [0, 5, 6, 7]), (10, [0, 5, 6, 7]), (11, [0, 5, 6, 7, 30]), (12, [0, 5, 6, 7]), (13, [5, 6, 35]), (14, [2, 3, 4]), (15, [8, 9]), (16, [2, 3, 4])]
def m46 : MC :=
  (.seq
 (.reg false [0] [⟨(some 2), none, false, .mov (.k (.d (.int .i64 0)))⟩,
 ⟨(some 3), none, false, .mov (.k (.d (.int .i64 0)))⟩,
 ⟨(some 4), none, false, .mov (.k (.d (.bool false)))⟩])
 (.seq
 (.seq
 (.reg false [0, 12] [⟨(some 10), none, false, .mov (.t 0)⟩,
 ⟨(some 11), none, true, .call 63 [(.t 10)]⟩,
 ⟨(some 12), none, false, .un .not (.t 11)⟩])
 (.cond (.t 12)
 (.seq
 (.reg false [2, 3, 4] [⟨(some 2), none, false, .mov (.k (.d (.int .i64 0)))⟩,
 ⟨(some 3), none, false, .mov (.k (.d (.int .i64 0)))⟩,
 ⟨(some 4), none, false, .mov (.k (.d (.bool false)))⟩])
 .ret)
 .skip))
 (.seq
 (.reg false [0, 5, 6] [⟨(some 5), none, false, .mov (.k (.d (.int .i64 0)))⟩,
 ⟨(some 6), none, false, .mov (.k (.d (.int .i64 0)))⟩])
 (.seq
 (.seq
 (.reg false [0, 5, 6, 7] [⟨(some 7), none, false, .mov (.k (.d (.int .i64 0)))⟩])
 (.block 0
 (.loop
 (.seq
 (.seq
 (.reg false [0, 5, 6, 7, 16] [⟨(some 13), none, false, .mov (.t 7)⟩,
 ⟨(some 14), none, false, .mov (.t 0)⟩,
 ⟨(some 15), none, false, .len false (.t 14)⟩,
 ⟨(some 16), none, false, .bin .lss (.t 13) (.t 15)⟩])
 (.cond (.t 16)
 .skip
 (.exit 0)))
 (.seq
 (.block 1
 (.seq
 (.reg false [0, 5, 6, 7, 23] [⟨(some 19), none, false, .mov (.t 0)⟩,
 ⟨(some 20), none, false, .mov (.t 7)⟩,
 ⟨(some 21), none, false, .ia 6 (.t 19) (.t 20)⟩,
 ⟨(some 22), none, false, .fa 5 5 (.t 21)⟩,
 ⟨(some 23), none, false, .ld none (.t 22)⟩])
 (.block 2
 (.seq
 (.reg false [0, 5, 6, 7, 23, 24] [⟨(some 25), none, false, .bin .eql (.t 23) (.k (.d (.int .i64 2)))⟩,
 ⟨(some 24), none, false, .mov (.t 25)⟩])
 (.cond (.t 24)
 (.seq
 (.reg false [0, 5, 6, 7] [⟨(some 26), none, false, .mov (.t 5)⟩,
 ⟨(some 27), none, false, .bin .add (.t 26) (.k (.d (.int .i64 1)))⟩,
 ⟨(some 5), none, false, .mov (.t 27)⟩])
 (.reg false [0, 5, 6, 7] [⟨(some 28), none, false, .mov (.t 6)⟩,
 ⟨(some 29), none, false, .bin .add (.t 28) (.k (.d (.int .i64 1)))⟩,
 ⟨(some 6), none, false, .mov (.t 29)⟩]))
 (.seq
 (.reg false [0, 5, 6, 7, 30] [⟨(some 31), none, false, .bin .eql (.t 23) (.k (.d (.int .i64 3)))⟩,
 ⟨(some 30), none, false, .mov (.t 31)⟩])
 (.cond (.t 30)
 (.reg false [0, 5, 6, 7] [⟨(some 32), none, false, .mov (.t 6)⟩,
 ⟨(some 33), none, false, .bin .add (.t 32) (.k (.d (.int .i64 1)))⟩,
 ⟨(some 6), none, false, .mov (.t 33)⟩])
 .skip)))))))
 (.reg false [0, 5, 6, 7] [⟨(some 17), none, false, .mov (.t 7)⟩,
 ⟨(some 18), none, false, .bin .add (.t 17) (.k (.d (.int .i64 1)))⟩,
 ⟨(some 7), none, false, .mov (.t 18)⟩]))))))
 (.seq
 (.seq
 (.reg false [5, 6, 35] [⟨(some 34), none, false, .mov (.t 6)⟩,
 ⟨(some 35), none, false, .bin .eql (.t 34) (.k (.d (.int .i64 0)))⟩])
 (.cond (.t 35)
 (.seq
 (.reg false [2, 3, 4] [⟨(some 2), none, false, .mov (.k (.d (.int .i64 0)))⟩,
 ⟨(some 3), none, false, .mov (.k (.d (.int .i64 0)))⟩,
 ⟨(some 4), none, false, .mov (.k (.d (.bool false)))⟩])
 .ret)
 .skip))
 (.seq
 (.reg false [8, 9] [⟨(some 37), none, false, .mov (.t 5)⟩,
 ⟨(some 38), none, false, .mov (.t 6)⟩,
 ⟨(some 39), none, true, .call 83 [(.t 37), (.t 38)]⟩,
 ⟨(some 36), none, false, .mov (.t 39)⟩,
 ⟨(some 40), none, false, .ext (.t 36) 0⟩,
 ⟨(some 41), none, false, .ext (.t 36) 1⟩,
 ⟨(some 8), none, false, .mov (.t 40)⟩,
 ⟨(some 9), none, false, .mov (.t 41)⟩])
 (.seq
 (.reg false [2, 3, 4] [⟨(some 42), none, false, .mov (.t 8)⟩,
 ⟨(some 43), none, false, .mov (.t 9)⟩,
 ⟨(some 2), none, false, .mov (.t 42)⟩,
 ⟨(some 3), none, false, .mov (.t 43)⟩,
 ⟨(some 4), none, false, .mov (.k (.d (.bool true)))⟩])
 .ret)))))))
theorem c46 : (Go.Proofs.Try.f46).body.bind (comp prog.P (1, (Go.Proofs.Try.f46).ntmps) lv46) = some m46 := by kernel_rfl
theorem r46 : resOK prog.P (Go.Proofs.Try.f46).results.toList = true := by kernel_rfl

/-- spec.DrawHearParty -/
def lv47 : List (Nat × List Nat) := [(0, [0]), (1, [5]), (2, [5, 6]), (3, [5, 6, 7]), (4, [5, 6, 7, 8]), (5, [5, 6, 7, 8, 35]), (6, [2, 3, 4]), (7, [2, 3, 4]), (1000006, [0, 1, 0, 1, 1, 1, 2, 1, 3, 1, 4, 1, 5, 1, 6, 1, 7, 1, 8, 1, 9, 1, 10, 1, 11, 1, 12, 1, 13, 2, 14, 1, 15, 1, 16, 1, 17, 1, 18, 1, 19, 0])]
def m47 : MC :=
  (.seq
 (.reg false [0] [⟨(some 2), none, false, .mov (.k .nil)⟩,
 ⟨(some 3), none, false, .mov (.k (.d (.int .i64 0)))⟩,
 ⟨(some 4), none, false, .mov (.k (.d (.int .i64 0)))⟩])
 (.seq
 (.reg false [5] [⟨(some 9), none, false, .mov (.t 0)⟩,
 ⟨(some 10), none, true, .bld (.cons (.sl true 1 .nil) (.cons (.int .i64 0) (.cons (.int .u64 0) .nil))) [(0, (.t 9))]⟩,
 ⟨(some 11), none, true, .box (.t 10)⟩,
 ⟨(some 5), none, false, .mov (.t 11)⟩])
 (.seq
 (.reg false [5, 6] [⟨(some 12), none, false, .mov (.t 5)⟩,
 ⟨(some 13), none, true, .call 84 [(.t 12)]⟩,
 ⟨(some 6), none, false, .mov (.t 13)⟩])
 (.seq
 (.reg false [5, 6, 7] [⟨(some 14), none, false, .mov (.t 5)⟩,
 ⟨(some 15), none, false, .mov (.t 6)⟩,
 ⟨(some 16), none, true, .call 98 [(.t 14), (.t 15), (.k (.d (.int .i64 0)))]⟩,
 ⟨(some 7), none, false, .mov (.t 16)⟩])
 (.seq
 (.seq
 (.reg false [5, 6, 7, 8] [⟨(some 17), none, false, .mov (.t 6)⟩,
 ⟨(some 18), none, false, .mov (.t 7)⟩,
 ⟨(some 19), none, true, .call 62 [(.t 17), (.t 18)]⟩,
 ⟨(some 8), none, false, .mov (.t 19)⟩])
 (.seq
 (.reg false [5, 6, 7, 8, 35] [⟨(some 20), none, false, .mov (.t 8)⟩,
 ⟨(some 21), none, false, .bin .geq (.t 20) (.k (.d (.int .i64 0)))⟩,
 ⟨(some 22), none, false, .mov (.t 21)⟩,
 ⟨(some 23), (some (22, true)), false, .mov (.t 6)⟩,
 ⟨(some 24), (some (22, true)), false, .mov (.t 8)⟩,
 ⟨(some 25), (some (22, true)), false, .ia 6 (.t 23) (.t 24)⟩,
 ⟨(some 26), (some (22, true)), false, .fa 3 3 (.t 25)⟩,
 ⟨(some 27), (some (22, true)), false, .ld none (.t 26)⟩,
 ⟨(some 28), (some (22, true)), false, .len false (.t 27)⟩,
 ⟨(some 29), (some (22, true)), false, .bin .gtr (.t 28) (.k (.d (.int .i64 0)))⟩,
 ⟨(some 30), none, false, .pick (.t 22) (.t 29) (.k (.d (.bool false)))⟩,
 ⟨(some 31), none, false, .mov (.t 30)⟩,
 ⟨(some 32), (some (31, true)), false, .mov (.t 5)⟩,
 ⟨(some 33), (some (31, true)), true, .call 102 [(.t 32), (.k (.d (.int .i64 6)))]⟩,
 ⟨(some 34), (some (31, true)), false, .un .not (.t 33)⟩,
 ⟨(some 35), none, false, .pick (.t 31) (.t 34) (.k (.d (.bool false)))⟩])
 (.cond (.t 35)
 (.seq
 (.any [] [2, 3, 4] (.q 0 ⟨(some 36), none, false, .mov (.t 6)⟩ (.q 1 ⟨(some 37), none, false, .mov (.t 7)⟩ (.q 2 ⟨(some 38), none, false, .mov (.t 6)⟩ (.q 3 ⟨(some 39), none, false, .mov (.t 8)⟩ (.q 4 ⟨(some 40), none, false, .ia 6 (.t 38) (.t 39)⟩ (.q 5 ⟨(some 41), none, false, .fa 3 3 (.t 40)⟩ (.q 6 ⟨(some 42), none, false, .ld none (.t 41)⟩ (.q 7 ⟨(some 43), none, false, .mov (.t 5)⟩ (.q 8 ⟨(some 44), none, false, .mov (.t 6)⟩ (.q 9 ⟨(some 45), none, false, .mov (.t 8)⟩ (.q 10 ⟨(some 46), none, false, .ia 6 (.t 44) (.t 45)⟩ (.q 11 ⟨(some 47), none, false, .fa 3 3 (.t 46)⟩ (.q 12 ⟨(some 48), none, false, .ld none (.t 47)⟩ (.q 13 ⟨(some 49), none, false, .len false (.t 48)⟩ (.e 14 ⟨(some 50), none, true, .call 86 [(.t 43), (.t 49)]⟩ (.q 15 ⟨(some 51), none, false, .ia 1 (.t 42) (.t 50)⟩ (.q 16 ⟨(some 52), none, false, .ld none (.t 51)⟩ (.q 17 ⟨(some 2), none, false, .mov (.t 36)⟩ (.q 18 ⟨(some 3), none, false, .mov (.t 37)⟩ (.q 19 ⟨(some 4), none, false, .mov (.t 52)⟩ .done)))))))))))))))))))))
 .ret)
 .skip)))
 (.seq
 (.reg false [2, 3, 4] [⟨(some 53), none, false, .mov (.t 6)⟩,
 ⟨(some 54), none, false, .mov (.t 7)⟩,
 ⟨(some 55), none, false, .mov (.t 5)⟩,
 ⟨(some 56), none, true, .bs 1 4 (.int .i64 0) [(0, (.k (.d (.int .i64 1)))), (1, (.k (.d (.int .i64 2)))), (2, (.k (.d (.int .i64 50)))), (3, (.k (.d (.int .i64 0))))]⟩,
 ⟨(some 57), none, true, .call 85 [(.t 55), (.t 56)]⟩,
 ⟨(some 2), none, false, .mov (.t 53)⟩,
 ⟨(some 3), none, false, .mov (.t 54)⟩,
 ⟨(some 4), none, false, .mov (.t 57)⟩])
 .ret))))))
theorem c47 : (Go.Proofs.Try.f47).body.bind (comp prog.P (1, (Go.Proofs.Try.f47).ntmps) lv47) = some m47 := by kernel_rfl
theorem r47 : resOK prog.P (Go.Proofs.Try.f47).results.toList = true := by kernel_rfl

/-- impl.HearParty -/
def lv48 : List (Nat × List Nat) := [(0, [0, 1, 2]), (1, [0, 2, 8]), (2, [0, 2, 8, 29]), (3, [6, 7]), (4, [2, 8, 9]), (5, [2, 9, 10]), (6, [9, 10]), (7, [9, 10]), (8, [9, 10, 60]), (9, [9]), (10, [6, 7])]
def m48 : MC :=
  (.seq
 (.reg false [0, 1, 2] [⟨(some 6), none, false, .mov (.k .nil)⟩,
 ⟨(some 7), none, false, .mov (.k (.d (.bool false)))⟩])
 (.seq
 (.reg false [0, 2, 8] [⟨(some 11), none, false, .mov (.t 0)⟩,
 ⟨(some 12), none, false, .mov (.t 1)⟩,
 ⟨(some 13), none, true, .call 66 [(.t 11), (.t 12)]⟩,
 ⟨(some 8), none, false, .mov (.t 13)⟩])
 (.seq
 (.seq
 (.reg false [0, 2, 8, 29] [⟨(some 14), none, false, .mov (.t 0)⟩,
 ⟨(some 15), none, true, .call 51 [(.t 14)]⟩,
 ⟨(some 16), none, false, .un .not (.t 15)⟩,
 ⟨(some 17), none, false, .mov (.t 16)⟩,
 ⟨(some 18), (some (17, false)), false, .mov (.t 8)⟩,
 ⟨(some 19), (some (17, false)), false, .bin .lss (.t 18) (.k (.d (.int .i64 0)))⟩,
 ⟨(some 20), none, false, .pick (.t 17) (.k (.d (.bool true))) (.t 19)⟩,
 ⟨(some 21), none, false, .mov (.t 20)⟩,
 ⟨(some 22), (some (21, false)), false, .mov (.t 0)⟩,
 ⟨(some 23), (some (21, false)), false, .mov (.t 8)⟩,
 ⟨(some 24), (some (21, false)), false, .ia 6 (.t 22) (.t 23)⟩,
 ⟨(some 25), (some (21, false)), false, .ld (some 6) (.t 24)⟩,
 ⟨(some 26), (some (21, false)), false, .mov (.t 2)⟩,
 ⟨(some 27), (some (21, false)), true, .call 88 [(.t 25), (.t 26)]⟩,
 ⟨(some 28), (some (21, false)), false, .un .not (.t 27)⟩,
 ⟨(some 29), none, false, .pick (.t 21) (.k (.d (.bool true))) (.t 28)⟩])
 (.cond (.t 29)
 (.seq
 (.reg false [6, 7] [⟨(some 6), none, false, .mov (.k .nil)⟩,
 ⟨(some 7), none, false, .mov (.k (.d (.bool false)))⟩])
 .ret)
 .skip))
 (.seq
 (.reg false [2, 8, 9] [⟨(some 30), none, false, .mov (.t 0)⟩,
 ⟨(some 31), none, true, .call 95 [(.t 30)]⟩,
 ⟨(some 9), none, false, .mov (.t 31)⟩])
 (.seq
 (.reg false [2, 9, 10] [⟨(some 32), none, false, .mov (.t 9)⟩,
 ⟨(some 33), none, false, .mov (.t 8)⟩,
 ⟨(some 34), none, false, .ia 6 (.t 32) (.t 33)⟩,
 ⟨(some 10), none, false, .mov (.t 34)⟩])
 (.seq
 (.reg false [9, 10] [⟨(some 35), none, false, .mov (.t 10)⟩,
 ⟨(some 36), none, false, .mov (.t 10)⟩,
 ⟨(some 37), none, false, .nck (.t 36)⟩,
 ⟨(some 38), none, false, .fa 4 4 (.t 37)⟩,
 ⟨(some 39), none, false, .ld none (.t 38)⟩,
 ⟨(some 40), none, false, .mov (.t 2)⟩,
 ⟨(some 41), none, true, .bs 1 1 (.int .i64 0) [(0, (.t 40))]⟩,
 ⟨(some 42), none, true, .app 1 8 (.t 39) (.t 41)⟩,
 ⟨(some 43), none, false, .nck (.t 35)⟩,
 ⟨(some 44), none, false, .fa 4 4 (.t 43)⟩,
 ⟨none, none, true, .st 1 (.t 44) (.t 42)⟩])
 (.seq
 (.reg false [9, 10] [⟨(some 45), none, false, .mov (.t 10)⟩,
 ⟨(some 46), none, false, .nck (.t 45)⟩,
 ⟨(some 47), none, false, .fa 4 4 (.t 46)⟩,
 ⟨(some 48), none, false, .ld none (.t 47)⟩,
 ⟨(some 49), none, true, .call 103 [(.t 48)]⟩])
 (.seq
 (.seq
 (.reg true [9, 10, 60] [⟨(some 50), none, false, .mov (.t 10)⟩,
 ⟨(some 51), none, false, .nck (.t 50)⟩,
 ⟨(some 52), none, false, .fa 4 4 (.t 51)⟩,
 ⟨(some 53), none, false, .ld none (.t 52)⟩,
 ⟨(some 54), none, false, .len false (.t 53)⟩,
 ⟨(some 55), none, false, .mov (.t 10)⟩,
 ⟨(some 56), none, false, .nck (.t 55)⟩,
 ⟨(some 57), none, false, .fa 3 3 (.t 56)⟩,
 ⟨(some 58), none, false, .ld none (.t 57)⟩,
 ⟨(some 59), none, false, .len false (.t 58)⟩,
 ⟨(some 60), none, false, .bin .eql (.t 54) (.t 59)⟩])
 (.cond (.t 60)
 (.reg false [9] [⟨(some 61), none, false, .mov (.t 10)⟩,
 ⟨(some 62), none, false, .nck (.t 61)⟩,
 ⟨(some 63), none, false, .fa 5 5 (.t 62)⟩,
 ⟨none, none, true, .st 1 (.t 63) (.k (.d (.int .i64 1)))⟩])
 .skip))
 (.seq
 (.reg false [6, 7] [⟨(some 64), none, false, .mov (.t 9)⟩,
 ⟨(some 6), none, false, .mov (.t 64)⟩,
 ⟨(some 7), none, false, .mov (.k (.d (.bool true)))⟩])
 .ret)))))))))
theorem c48 : (Go.Proofs.Try.f48).body.bind (comp prog.P (3, (Go.Proofs.Try.f48).ntmps) lv48) = some m48 := by kernel_rfl
theorem r48 : resOK prog.P (Go.Proofs.Try.f48).results.toList = true := by kernel_rfl

/-- spec.HearParty -/
def lv49 : List (Nat × List Nat) := [(0, [0, 1, 2]), (1, [0, 2, 8]), (2, [0, 2, 8, 47]), (3, [6, 7]), (4, [2, 8, 9]), (5, [2, 8, 9, 10]), (6, [8, 9, 10]), (7, [8, 9, 10, 66]), (8, [8, 9, 10]), (9, [9]), (10, [6, 7])]
def m49 : MC :=
  (.seq
 (.reg false [0, 1, 2] [⟨(some 6), none, false, .mov (.k .nil)⟩,
 ⟨(some 7), none, false, .mov (.k (.d (.bool false)))⟩])
 (.seq
 (.reg false [0, 2, 8] [⟨(some 11), none, false, .mov (.t 0)⟩,
 ⟨(some 12), none, false, .mov (.t 1)⟩,
 ⟨(some 13), none, true, .call 62 [(.t 11), (.t 12)]⟩,
 ⟨(some 8), none, false, .mov (.t 13)⟩])
 (.seq
 (.seq
 (.reg false [0, 2, 8, 47] [⟨(some 14), none, false, .mov (.t 0)⟩,
 ⟨(some 15), none, true, .call 63 [(.t 14)]⟩,
 ⟨(some 16), none, false, .un .not (.t 15)⟩,
 ⟨(some 17), none, false, .mov (.t 16)⟩,
 ⟨(some 18), (some (17, false)), false, .mov (.t 8)⟩,
 ⟨(some 19), (some (17, false)), false, .bin .lss (.t 18) (.k (.d (.int .i64 0)))⟩,
 ⟨(some 20), none, false, .pick (.t 17) (.k (.d (.bool true))) (.t 19)⟩,
 ⟨(some 21), none, false, .mov (.t 20)⟩,
 ⟨(some 22), (some (21, false)), false, .mov (.t 0)⟩,
 ⟨(some 23), (some (21, false)), false, .mov (.t 8)⟩,
 ⟨(some 24), (some (21, false)), false, .ia 6 (.t 22) (.t 23)⟩,
 ⟨(some 25), (some (21, false)), false, .fa 5 5 (.t 24)⟩,
 ⟨(some 26), (some (21, false)), false, .ld none (.t 25)⟩,
 ⟨(some 27), (some (21, false)), false, .bin .neq (.t 26) (.k (.d (.int .i64 0)))⟩,
 ⟨(some 28), none, false, .pick (.t 21) (.k (.d (.bool true))) (.t 27)⟩,
 ⟨(some 29), none, false, .mov (.t 28)⟩,
 ⟨(some 30), (some (29, false)), false, .mov (.t 0)⟩,
 ⟨(some 31), (some (29, false)), false, .mov (.t 8)⟩,
 ⟨(some 32), (some (29, false)), false, .ia 6 (.t 30) (.t 31)⟩,
 ⟨(some 33), (some (29, false)), false, .fa 3 3 (.t 32)⟩,
 ⟨(some 34), (some (29, false)), false, .ld none (.t 33)⟩,
 ⟨(some 35), (some (29, false)), false, .mov (.t 2)⟩,
 ⟨(some 36), (some (29, false)), true, .call 64 [(.t 34), (.t 35)]⟩,
 ⟨(some 37), (some (29, false)), false, .un .not (.t 36)⟩,
 ⟨(some 38), none, false, .pick (.t 29) (.k (.d (.bool true))) (.t 37)⟩,
 ⟨(some 39), none, false, .mov (.t 38)⟩,
 ⟨(some 40), (some (39, false)), false, .mov (.t 0)⟩,
 ⟨(some 41), (some (39, false)), false, .mov (.t 8)⟩,
 ⟨(some 42), (some (39, false)), false, .ia 6 (.t 40) (.t 41)⟩,
 ⟨(some 43), (some (39, false)), false, .fa 4 4 (.t 42)⟩,
 ⟨(some 44), (some (39, false)), false, .ld none (.t 43)⟩,
 ⟨(some 45), (some (39, false)), false, .mov (.t 2)⟩,
 ⟨(some 46), (some (39, false)), true, .call 64 [(.t 44), (.t 45)]⟩,
 ⟨(some 47), none, false, .pick (.t 39) (.k (.d (.bool true))) (.t 46)⟩])
 (.cond (.t 47)
 (.seq
 (.reg false [6, 7] [⟨(some 48), none, true, .bs 6 0 (.st (.cons (.int .i64 0) (.cons (.int .i64 0) (.cons (.int .i64 0) (.cons (.sl true 1 .nil) (.cons (.sl true 1 .nil) (.cons (.int .i64 0) .nil))))))) []⟩,
 ⟨(some 6), none, false, .mov (.t 48)⟩,
 ⟨(some 7), none, false, .mov (.k (.d (.bool false)))⟩])
 .ret)
 .skip))
 (.seq
 (.reg false [2, 8, 9] [⟨(some 49), none, false, .mov (.t 0)⟩,
 ⟨(some 50), none, true, .call 97 [(.t 49)]⟩,
 ⟨(some 9), none, false, .mov (.t 50)⟩])
 (.seq
 (.reg false [2, 8, 9, 10] [⟨(some 51), none, false, .mov (.t 9)⟩,
 ⟨(some 52), none, false, .mov (.t 8)⟩,
 ⟨(some 53), none, false, .ia 6 (.t 51) (.t 52)⟩,
 ⟨(some 54), none, false, .ld (some 6) (.t 53)⟩,
 ⟨(some 10), none, true, .alloc (.st (.cons (.int .i64 0) (.cons (.int .i64 0) (.cons (.int .i64 0) (.cons (.sl true 1 .nil) (.cons (.sl true 1 .nil) (.cons (.int .i64 0) .nil)))))))⟩,
 ⟨none, none, true, .st 6 (.t 10) (.t 54)⟩])
 (.seq
 (.reg false [8, 9, 10] [⟨(some 55), none, false, .fa 4 4 (.t 10)⟩,
 ⟨(some 56), none, false, .ld none (.t 55)⟩,
 ⟨(some 57), none, false, .mov (.t 2)⟩,
 ⟨(some 58), none, true, .call 104 [(.t 56), (.t 57)]⟩,
 ⟨(some 59), none, false, .fa 4 4 (.t 10)⟩,
 ⟨none, none, true, .st 1 (.t 59) (.t 58)⟩])
 (.seq
 (.seq
 (.reg false [8, 9, 10, 66] [⟨(some 60), none, false, .fa 4 4 (.t 10)⟩,
 ⟨(some 61), none, false, .ld none (.t 60)⟩,
 ⟨(some 62), none, false, .len false (.t 61)⟩,
 ⟨(some 63), none, false, .fa 3 3 (.t 10)⟩,
 ⟨(some 64), none, false, .ld none (.t 63)⟩,
 ⟨(some 65), none, false, .len false (.t 64)⟩,
 ⟨(some 66), none, false, .bin .eql (.t 62) (.t 65)⟩])
 (.cond (.t 66)
 (.reg false [8, 9, 10] [⟨(some 67), none, false, .fa 5 5 (.t 10)⟩,
 ⟨none, none, true, .st 1 (.t 67) (.k (.d (.int .i64 1)))⟩])
 .skip))
 (.seq
 (.reg false [9] [⟨(some 68), none, false, .mov (.t 9)⟩,
 ⟨(some 69), none, false, .mov (.t 8)⟩,
 ⟨(some 70), none, false, .ld (some 6) (.t 10)⟩,
 ⟨(some 71), none, false, .ia 6 (.t 68) (.t 69)⟩,
 ⟨none, none, true, .st 6 (.t 71) (.t 70)⟩])
 (.seq
 (.reg false [6, 7] [⟨(some 72), none, false, .mov (.t 9)⟩,
 ⟨(some 6), none, false, .mov (.t 72)⟩,
 ⟨(some 7), none, false, .mov (.k (.d (.bool true)))⟩])
 .ret)))))))))
theorem c49 : (Go.Proofs.Try.f49).body.bind (comp prog.P (3, (Go.Proofs.Try.f49).ntmps) lv49) = some m49 := by kernel_rfl
theorem r49 : resOK prog.P (Go.Proofs.Try.f49).results.toList = true := by kernel_rfl

/-- impl.DecideAppeal -/
def lv50 : List (Nat × List Nat) := [(0, [0, 1, 2]), (1, [0, 2, 8]), (2, [0, 2, 8, 27]), (3, [6, 7]), (4, [2, 8, 9]), (5, [2, 8, 9]), (6, [8, 9, 34]), (7, [9]), (8, [6, 7])]
def m50 : MC :=
  (.seq
 (.reg false [0, 1, 2] [⟨(some 6), none, false, .mov (.k .nil)⟩,
 ⟨(some 7), none, false, .mov (.k (.d (.bool false)))⟩])
 (.seq
 (.reg false [0, 2, 8] [⟨(some 10), none, false, .mov (.t 0)⟩,
 ⟨(some 11), none, false, .mov (.t 1)⟩,
 ⟨(some 12), none, true, .call 66 [(.t 10), (.t 11)]⟩,
 ⟨(some 8), none, false, .mov (.t 12)⟩])
 (.seq
 (.seq
 (.reg false [0, 2, 8, 27] [⟨(some 13), none, false, .mov (.t 0)⟩,
 ⟨(some 14), none, true, .call 51 [(.t 13)]⟩,
 ⟨(some 15), none, false, .un .not (.t 14)⟩,
 ⟨(some 16), none, false, .mov (.t 15)⟩,
 ⟨(some 17), (some (16, false)), false, .mov (.t 8)⟩,
 ⟨(some 18), (some (16, false)), false, .bin .lss (.t 17) (.k (.d (.int .i64 0)))⟩,
 ⟨(some 19), none, false, .pick (.t 16) (.k (.d (.bool true))) (.t 18)⟩,
 ⟨(some 20), none, false, .mov (.t 19)⟩,
 ⟨(some 21), (some (20, false)), false, .mov (.t 0)⟩,
 ⟨(some 22), (some (20, false)), false, .mov (.t 8)⟩,
 ⟨(some 23), (some (20, false)), false, .ia 6 (.t 21) (.t 22)⟩,
 ⟨(some 24), (some (20, false)), false, .fa 5 5 (.t 23)⟩,
 ⟨(some 25), (some (20, false)), false, .ld none (.t 24)⟩,
 ⟨(some 26), (some (20, false)), false, .bin .neq (.t 25) (.k (.d (.int .i64 1)))⟩,
 ⟨(some 27), none, false, .pick (.t 20) (.k (.d (.bool true))) (.t 26)⟩])
 (.cond (.t 27)
 (.seq
 (.reg false [6, 7] [⟨(some 6), none, false, .mov (.k .nil)⟩,
 ⟨(some 7), none, false, .mov (.k (.d (.bool false)))⟩])
 .ret)
 .skip))
 (.seq
 (.reg false [2, 8, 9] [⟨(some 28), none, false, .mov (.t 0)⟩,
 ⟨(some 29), none, true, .call 95 [(.t 28)]⟩,
 ⟨(some 9), none, false, .mov (.t 29)⟩])
 (.seq
 (.reg false [2, 8, 9] [⟨(some 30), none, false, .mov (.t 9)⟩,
 ⟨(some 31), none, false, .mov (.t 8)⟩,
 ⟨(some 32), none, false, .ia 6 (.t 30) (.t 31)⟩,
 ⟨(some 33), none, false, .fa 5 5 (.t 32)⟩,
 ⟨none, none, true, .st 1 (.t 33) (.k (.d (.int .i64 3)))⟩])
 (.seq
 (.seq
 (.reg false [8, 9, 34] [⟨(some 34), none, false, .mov (.t 2)⟩])
 (.cond (.t 34)
 (.reg false [9] [⟨(some 35), none, false, .mov (.t 9)⟩,
 ⟨(some 36), none, false, .mov (.t 8)⟩,
 ⟨(some 37), none, false, .ia 6 (.t 35) (.t 36)⟩,
 ⟨(some 38), none, false, .fa 5 5 (.t 37)⟩,
 ⟨none, none, true, .st 1 (.t 38) (.k (.d (.int .i64 2)))⟩])
 .skip))
 (.seq
 (.reg false [6, 7] [⟨(some 39), none, false, .mov (.t 9)⟩,
 ⟨(some 6), none, false, .mov (.t 39)⟩,
 ⟨(some 7), none, false, .mov (.k (.d (.bool true)))⟩])
 .ret)))))))
theorem c50 : (Go.Proofs.Try.f50).body.bind (comp prog.P (3, (Go.Proofs.Try.f50).ntmps) lv50) = some m50 := by kernel_rfl
theorem r50 : resOK prog.P (Go.Proofs.Try.f50).results.toList = true := by kernel_rfl

/-- impl.AreAppeals -/
def lv51 : List (Nat × List Nat) := [(0, [0]), (1, [0, 5, 6, 7]), (2, [0, 5, 6, 7, 8]), (3, [0, 3, 4, 5, 6, 7]), (4, [0, 3, 4, 5, 6, 7, 29]), (5, [2]), (6, [0, 5, 6, 7, 38]), (7, [2]), (8, [0, 5, 6, 7]), (9, [2])]
def m51 : MC :=
  (.seq
 (.reg false [0] [⟨(some 2), none, false, .mov (.k (.d (.bool false)))⟩])
 (.seq
 (.seq
 (.reg false [0, 5, 6, 7] [⟨(some 5), none, false, .mov (.t 0)⟩,
 ⟨(some 6), none, false, .len false (.t 5)⟩,
 ⟨(some 7), none, false, .mov (.k (.d (.int .i64 0)))⟩])
 (.block 0
 (.loop
 (.seq
 (.reg false [0, 5, 6, 7, 8] [⟨(some 8), none, false, .bin .lss (.t 7) (.t 6)⟩])
 (.seq
 (.cond (.t 8)
 .skip
 (.exit 0))
 (.seq
 (.block 1
 (.seq
 (.reg false [0, 3, 4, 5, 6, 7] [⟨(some 9), none, false, .mov (.t 7)⟩,
 ⟨(some 10), none, false, .ia 6 (.t 5) (.t 7)⟩,
 ⟨(some 11), none, false, .ld (some 6) (.t 10)⟩,
 ⟨(some 4), none, true, .alloc (.st (.cons (.int .i64 0) (.cons (.int .i64 0) (.cons (.int .i64 0) (.cons (.sl true 1 .nil) (.cons (.sl true 1 .nil) (.cons (.int .i64 0) .nil)))))))⟩,
 ⟨(some 3), none, false, .mov (.t 9)⟩,
 ⟨none, none, true, .st 6 (.t 4) (.t 11)⟩])
 (.seq
 (.seq
 (.reg true [0, 3, 4, 5, 6, 7, 29] [⟨(some 12), none, false, .ld (some 6) (.t 4)⟩,
 ⟨(some 13), none, false, .callP 59 [(.t 12)]⟩,
 ⟨(some 14), none, false, .un .not (.t 13)⟩,
 ⟨(some 15), none, false, .mov (.t 14)⟩,
 ⟨(some 16), (some (15, false)), false, .mov (.t 3)⟩,
 ⟨(some 17), (some (15, false)), false, .bin .gtr (.t 16) (.k (.d (.int .i64 0)))⟩,
 ⟨(some 18), (some (15, false)), false, .mov (.t 17)⟩,
 ⟨(some 19), (some (18, true)), false, .mov (.t 0)⟩,
 ⟨(some 20), (some (18, true)), false, .mov (.t 3)⟩,
 ⟨(some 21), (some (18, true)), false, .bin .sub (.t 20) (.k (.d (.int .i64 1)))⟩,
 ⟨(some 22), (some (18, true)), false, .ia 6 (.t 19) (.t 21)⟩,
 ⟨(some 23), (some (18, true)), false, .fa 0 0 (.t 22)⟩,
 ⟨(some 24), (some (18, true)), false, .ld none (.t 23)⟩,
 ⟨(some 25), (some (18, true)), false, .fa 0 0 (.t 4)⟩,
 ⟨(some 26), (some (18, true)), false, .ld none (.t 25)⟩,
 ⟨(some 27), (some (18, true)), false, .bin .geq (.t 24) (.t 26)⟩,
 ⟨(some 28), (some (15, false)), false, .pick (.t 18) (.t 27) (.k (.d (.bool false)))⟩,
 ⟨(some 29), none, false, .pick (.t 15) (.k (.d (.bool true))) (.t 28)⟩])
 (.cond (.t 29)
 (.seq
 (.reg false [2] [⟨(some 2), none, false, .mov (.k (.d (.bool false)))⟩])
 .ret)
 .skip))
 (.seq
 (.reg false [0, 5, 6, 7, 38] [⟨(some 30), none, false, .ld (some 6) (.t 4)⟩,
 ⟨(some 31), none, true, .call 105 [(.t 30)]⟩,
 ⟨(some 32), none, false, .mov (.t 31)⟩,
 ⟨(some 33), (some (32, true)), false, .mov (.t 0)⟩,
 ⟨(some 34), (some (32, true)), false, .mov (.t 3)⟩,
 ⟨(some 35), (some (32, true)), true, .cut 6 (.t 33) (.t 34)⟩,
 ⟨(some 36), (some (32, true)), false, .clos 107 [(.t 4)]⟩,
 ⟨(some 37), (some (32, true)), true, .call 106 [(.t 35), (.t 36)]⟩,
 ⟨(some 38), none, false, .pick (.t 32) (.t 37) (.k (.d (.bool false)))⟩])
 (.cond (.t 38)
 (.seq
 (.reg false [2] [⟨(some 2), none, false, .mov (.k (.d (.bool false)))⟩])
 .ret)
 .skip)))))
 (.reg false [0, 5, 6, 7] [⟨(some 39), none, false, .bin .add (.t 7) (.k (.d (.int .i64 1)))⟩,
 ⟨(some 7), none, false, .mov (.t 39)⟩])))))))
 (.seq
 (.reg false [2] [⟨(some 40), none, false, .mov (.t 0)⟩,
 ⟨(some 41), none, false, .len false (.t 40)⟩,
 ⟨(some 42), none, false, .bin .leq (.t 41) (.k (.d (.int .i64 10)))⟩,
 ⟨(some 2), none, false, .mov (.t 42)⟩])
 .ret)))
theorem c51 : (Go.Proofs.Try.f51).body.bind (comp prog.P (1, (Go.Proofs.Try.f51).ntmps) lv51) = some m51 := by kernel_rfl
theorem r51 : resOK prog.P (Go.Proofs.Try.f51).results.toList = true := by kernel_rfl

/-- spec.DrawNewAppeal -/
def lv52 : List (Nat × List Nat) := [(0, [0]), (1, [6]), (2, [6, 7]), (3, [2, 3, 4, 5])]
def m52 : MC :=
  (.seq
 (.reg false [0] [⟨(some 2), none, false, .mov (.k .nil)⟩,
 ⟨(some 3), none, false, .mov (.k (.d (.int .i64 0)))⟩,
 ⟨(some 4), none, false, .mov (.k (.d (.int .i64 0)))⟩,
 ⟨(some 5), none, false, .mov (.k .nil)⟩])
 (.seq
 (.reg false [6] [⟨(some 8), none, false, .mov (.t 0)⟩,
 ⟨(some 9), none, true, .bld (.cons (.sl true 1 .nil) (.cons (.int .i64 0) (.cons (.int .u64 0) .nil))) [(0, (.t 8))]⟩,
 ⟨(some 10), none, true, .box (.t 9)⟩,
 ⟨(some 6), none, false, .mov (.t 10)⟩])
 (.seq
 (.reg false [6, 7] [⟨(some 11), none, false, .mov (.t 6)⟩,
 ⟨(some 12), none, true, .call 84 [(.t 11)]⟩,
 ⟨(some 7), none, false, .mov (.t 12)⟩])
 (.seq
 (.reg false [2, 3, 4, 5] [⟨(some 13), none, false, .mov (.t 7)⟩,
 ⟨(some 14), none, false, .mov (.t 6)⟩,
 ⟨(some 15), none, true, .bs 1 6 (.int .i64 0) [(0, (.k (.d (.int .i64 1)))), (1, (.k (.d (.int .i64 2)))), (2, (.k (.d (.int .i64 5)))), (3, (.k (.d (.int .i64 999)))), (4, (.k (.d (.int .i64 0)))), (5, (.k (.d (.int .i64 1000))))]⟩,
 ⟨(some 16), none, false, .mov (.t 6)⟩,
 ⟨(some 17), none, true, .call 86 [(.t 16), (.k (.d (.int .i64 24)))]⟩,
 ⟨(some 18), none, false, .bin .quo (.t 17) (.k (.d (.int .i64 11)))⟩,
 ⟨(some 19), none, false, .bin .add (.k (.d (.int .i64 4))) (.t 18)⟩,
 ⟨(some 20), none, true, .cut 1 (.t 15) (.t 19)⟩,
 ⟨(some 21), none, true, .call 85 [(.t 14), (.t 20)]⟩,
 ⟨(some 22), none, false, .mov (.t 6)⟩,
 ⟨(some 23), none, true, .call 93 [(.t 22)]⟩,
 ⟨(some 24), none, false, .mov (.t 6)⟩,
 ⟨(some 25), none, true, .call 108 [(.t 24)]⟩,
 ⟨(some 2), none, false, .mov (.t 13)⟩,
 ⟨(some 3), none, false, .mov (.t 21)⟩,
 ⟨(some 4), none, false, .mov (.t 23)⟩,
 ⟨(some 5), none, false, .mov (.t 25)⟩])
 .ret))))
theorem c52 : (Go.Proofs.Try.f52).body.bind (comp prog.P (1, (Go.Proofs.Try.f52).ntmps) lv52) = some m52 := by kernel_rfl
theorem r52 : resOK prog.P (Go.Proofs.Try.f52).results.toList = true := by kernel_rfl

/-- impl.NewAppeal -/
def lv53 : List (Nat × List Nat) := [(0, [0, 1, 2, 3]), (1, [0, 1, 2, 3, 15]), (2, [8, 9, 10]), (3, [0, 3, 11]), (4, [0, 3, 11, 23]), (5, [0, 3, 11]), (6, [0, 11, 35]), (7, [0, 11]), (8, [11, 12]), (9, [11, 12, 44]), (10, [8, 9, 10]), (11, [8, 9, 10]), (1000008, [0, 1, 0, 1, 2, 3, 2, 1, 2, 3, 2, 4, 1, 5, 0, 2, 3, 2, 1, 2, 4, 1, 5, 0])]
def m53 : MC :=
  (.seq
 (.reg false [0, 1, 2, 3] [⟨(some 8), none, false, .mov (.k .nil)⟩,
 ⟨(some 9), none, false, .mov (.k (.d (.int .i64 0)))⟩,
 ⟨(some 10), none, false, .mov (.k (.d (.bool false)))⟩])
 (.seq
 (.seq
 (.reg false [0, 1, 2, 3, 15] [⟨(some 13), none, false, .mov (.t 0)⟩,
 ⟨(some 14), none, true, .call 51 [(.t 13)]⟩,
 ⟨(some 15), none, false, .un .not (.t 14)⟩])
 (.cond (.t 15)
 (.seq
 (.reg false [8, 9, 10] [⟨(some 8), none, false, .mov (.k .nil)⟩,
 ⟨(some 9), none, false, .mov (.k (.d (.int .i64 0)))⟩,
 ⟨(some 10), none, false, .mov (.k (.d (.bool false)))⟩])
 .ret)
 .skip))
 (.seq
 (.reg false [0, 3, 11] [⟨(some 16), none, false, .mov (.t 1)⟩,
 ⟨(some 17), none, false, .mov (.t 2)⟩,
 ⟨(some 18), none, false, .mov (.t 3)⟩,
 ⟨(some 19), none, true, .call 68 [(.t 18)]⟩,
 ⟨(some 20), none, true, .bld (.cons (.int .i64 0) (.cons (.int .i64 0) (.cons (.int .i64 0) (.cons (.sl true 1 .nil) (.cons (.sl true 1 .nil) (.cons (.int .i64 0) .nil)))))) [(0, (.k (.d (.int .i64 1)))), (1, (.t 16)), (2, (.t 17)), (3, (.t 19))]⟩,
 ⟨(some 11), none, true, .alloc (.st (.cons (.int .i64 0) (.cons (.int .i64 0) (.cons (.int .i64 0) (.cons (.sl true 1 .nil) (.cons (.sl true 1 .nil) (.cons (.int .i64 0) .nil)))))))⟩,
 ⟨none, none, true, .st 6 (.t 11) (.t 20)⟩])
 (.seq
 (.seq
 (.reg false [0, 3, 11, 23] [⟨(some 21), none, false, .mov (.t 0)⟩,
 ⟨(some 22), none, false, .len false (.t 21)⟩,
 ⟨(some 23), none, false, .bin .gtr (.t 22) (.k (.d (.int .i64 0)))⟩])
 (.cond (.t 23)
 (.reg false [0, 3, 11] [⟨(some 24), none, false, .mov (.t 0)⟩,
 ⟨(some 25), none, false, .mov (.t 0)⟩,
 ⟨(some 26), none, false, .len false (.t 25)⟩,
 ⟨(some 27), none, false, .bin .sub (.t 26) (.k (.d (.int .i64 1)))⟩,
 ⟨(some 28), none, false, .ia 6 (.t 24) (.t 27)⟩,
 ⟨(some 29), none, false, .fa 0 0 (.t 28)⟩,
 ⟨(some 30), none, false, .ld none (.t 29)⟩,
 ⟨(some 31), none, false, .bin .add (.t 30) (.k (.d (.int .i64 1)))⟩,
 ⟨(some 32), none, false, .fa 0 0 (.t 11)⟩,
 ⟨none, none, true, .st 1 (.t 32) (.t 31)⟩])
 .skip))
 (.seq
 (.seq
 (.reg false [0, 11, 35] [⟨(some 33), none, false, .mov (.t 3)⟩,
 ⟨(some 34), none, false, .len false (.t 33)⟩,
 ⟨(some 35), none, false, .bin .eql (.t 34) (.k (.d (.int .i64 0)))⟩])
 (.cond (.t 35)
 (.reg false [0, 11] [⟨(some 36), none, false, .fa 5 5 (.t 11)⟩,
 ⟨none, none, true, .st 1 (.t 36) (.k (.d (.int .i64 1)))⟩])
 .skip))
 (.seq
 (.any [] [11, 12] (.q 0 ⟨(some 37), none, false, .mov (.t 0)⟩ (.q 2 ⟨(some 39), none, false, .ld (some 6) (.t 11)⟩ (.br (.e 1 ⟨(some 38), none, true, .call 95 [(.t 37)]⟩ (.e 3 ⟨(some 40), none, true, .bs 6 1 (.st (.cons (.int .i64 0) (.cons (.int .i64 0) (.cons (.int .i64 0) (.cons (.sl true 1 .nil) (.cons (.sl true 1 .nil) (.cons (.int .i64 0) .nil))))))) [(0, (.t 39))]⟩ (.e 4 ⟨(some 41), none, true, .app 6 80 (.t 38) (.t 40)⟩ (.q 5 ⟨(some 12), none, false, .mov (.t 41)⟩ .done))))
 (.e 3 ⟨(some 40), none, true, .bs 6 1 (.st (.cons (.int .i64 0) (.cons (.int .i64 0) (.cons (.int .i64 0) (.cons (.sl true 1 .nil) (.cons (.sl true 1 .nil) (.cons (.int .i64 0) .nil))))))) [(0, (.t 39))]⟩ (.e 1 ⟨(some 38), none, true, .call 95 [(.t 37)]⟩ (.e 4 ⟨(some 41), none, true, .app 6 80 (.t 38) (.t 40)⟩ (.q 5 ⟨(some 12), none, false, .mov (.t 41)⟩ .done))))))))
 (.seq
 (.seq
 (.reg false [11, 12, 44] [⟨(some 42), none, false, .mov (.t 12)⟩,
 ⟨(some 43), none, true, .call 51 [(.t 42)]⟩,
 ⟨(some 44), none, false, .un .not (.t 43)⟩])
 (.cond (.t 44)
 (.seq
 (.reg false [8, 9, 10] [⟨(some 8), none, false, .mov (.k .nil)⟩,
 ⟨(some 9), none, false, .mov (.k (.d (.int .i64 0)))⟩,
 ⟨(some 10), none, false, .mov (.k (.d (.bool false)))⟩])
 .ret)
 .skip))
 (.seq
 (.reg true [8, 9, 10] [⟨(some 45), none, false, .mov (.t 12)⟩,
 ⟨(some 46), none, false, .fa 0 0 (.t 11)⟩,
 ⟨(some 47), none, false, .ld none (.t 46)⟩,
 ⟨(some 8), none, false, .mov (.t 45)⟩,
 ⟨(some 9), none, false, .mov (.t 47)⟩,
 ⟨(some 10), none, false, .mov (.k (.d (.bool true)))⟩])
 .ret))))))))
theorem c53 : (Go.Proofs.Try.f53).body.bind (comp prog.P (4, (Go.Proofs.Try.f53).ntmps) lv53) = some m53 := by kernel_rfl
theorem r53 : resOK prog.P (Go.Proofs.Try.f53).results.toList = true := by kernel_rfl

end Go.Pe.Try
