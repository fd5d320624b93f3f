/-
The compact code of the functions that the law reaches, printed by gen.py, each with the proof that the machine's code is compiled to it.
-/
import Derived.Test.YtbkjloohaahmdaaMc1
import Derived.Test.YtbkjloohaahmdaaProg
import Derived.KernelRfl
set_option maxRecDepth 100000
namespace Go.Pe.Try
open Go.Pe

/-- spec.l1Rising -/
def lv135 : List (Nat × List Nat) := [(0, [0, 1, 2]), (1, [0, 1, 2, 7]), (2, [0, 1, 2, 7, 11]), (3, [0, 1, 2, 7]), (4, [0, 1, 2, 7, 37]), (5, [6]), (6, [6])]
def m135 : MC :=
  (.seq
 (.reg false [0, 1, 2] [⟨(some 6), none, false, .mov (.k (.d (.bool false)))⟩])
 (.seq
 (.seq
 (.reg false [0, 1, 2, 7] [⟨(some 7), none, false, .mov (.k (.d (.int .i64 0)))⟩])
 (.block 0
 (.loop
 (.seq
 (.seq
 (.reg false [0, 1, 2, 7, 11] [⟨(some 8), none, false, .mov (.t 7)⟩,
 ⟨(some 9), none, false, .mov (.t 0)⟩,
 ⟨(some 10), none, false, .len false (.t 9)⟩,
 ⟨(some 11), none, false, .bin .lss (.t 8) (.t 10)⟩])
 (.cond (.t 11)
 .skip
 (.exit 0)))
 (.seq
 (.block 1
 (.seq
 (.reg true [0, 1, 2, 7, 37] [⟨(some 14), none, false, .mov (.t 0)⟩,
 ⟨(some 15), none, false, .mov (.t 7)⟩,
 ⟨(some 16), none, false, .ia 1 (.t 14) (.t 15)⟩,
 ⟨(some 17), none, false, .ld none (.t 16)⟩,
 ⟨(some 18), none, false, .mov (.t 1)⟩,
 ⟨(some 19), none, false, .mov (.t 2)⟩,
 ⟨(some 20), none, false, .callP 131 [(.t 17), (.t 18), (.t 19)]⟩,
 ⟨(some 21), none, false, .un .not (.t 20)⟩,
 ⟨(some 22), none, false, .mov (.t 21)⟩,
 ⟨(some 23), (some (22, false)), false, .mov (.t 7)⟩,
 ⟨(some 24), (some (22, false)), false, .bin .gtr (.t 23) (.k (.d (.int .i64 0)))⟩,
 ⟨(some 25), (some (22, false)), false, .mov (.t 24)⟩,
 ⟨(some 26), (some (25, true)), false, .mov (.t 0)⟩,
 ⟨(some 27), (some (25, true)), false, .mov (.t 7)⟩,
 ⟨(some 28), (some (25, true)), false, .bin .sub (.t 27) (.k (.d (.int .i64 1)))⟩,
 ⟨(some 29), (some (25, true)), false, .ia 1 (.t 26) (.t 28)⟩,
 ⟨(some 30), (some (25, true)), false, .ld none (.t 29)⟩,
 ⟨(some 31), (some (25, true)), false, .mov (.t 0)⟩,
 ⟨(some 32), (some (25, true)), false, .mov (.t 7)⟩,
 ⟨(some 33), (some (25, true)), false, .ia 1 (.t 31) (.t 32)⟩,
 ⟨(some 34), (some (25, true)), false, .ld none (.t 33)⟩,
 ⟨(some 35), (some (25, true)), false, .bin .geq (.t 30) (.t 34)⟩,
 ⟨(some 36), (some (22, false)), false, .pick (.t 25) (.t 35) (.k (.d (.bool false)))⟩,
 ⟨(some 37), none, false, .pick (.t 22) (.k (.d (.bool true))) (.t 36)⟩])
 (.cond (.t 37)
 (.seq
 (.reg false [6] [⟨(some 6), none, false, .mov (.k (.d (.bool false)))⟩])
 .ret)
 .skip)))
 (.reg false [0, 1, 2, 7] [⟨(some 12), none, false, .mov (.t 7)⟩,
 ⟨(some 13), none, false, .bin .add (.t 12) (.k (.d (.int .i64 1)))⟩,
 ⟨(some 7), none, false, .mov (.t 13)⟩]))))))
 (.seq
 (.reg false [6] [⟨(some 6), none, false, .mov (.k (.d (.bool true)))⟩])
 .ret)))
theorem c135 : (Go.Proofs.Try.f135).body.bind (comp prog.P (3, (Go.Proofs.Try.f135).ntmps) lv135) = some m135 := by kernel_rfl
theorem r135 : resOK prog.P (Go.Proofs.Try.f135).results.toList = true := by kernel_rfl

/-- impl.abs -/
def lv137 : List (Nat × List Nat) := [(0, [0]), (1, [0, 4]), (2, [2]), (3, [2])]
def m137 : MC :=
  (.seq
 (.reg false [0] [⟨(some 2), none, false, .mov (.k (.d (.int .i64 0)))⟩])
 (.seq
 (.seq
 (.reg false [0, 4] [⟨(some 3), none, false, .mov (.t 0)⟩,
 ⟨(some 4), none, false, .bin .lss (.t 3) (.k (.d (.int .i64 0)))⟩])
 (.cond (.t 4)
 (.seq
 (.reg false [2] [⟨(some 5), none, false, .mov (.t 0)⟩,
 ⟨(some 6), none, false, .un .neg (.t 5)⟩,
 ⟨(some 2), none, false, .mov (.t 6)⟩])
 .ret)
 .skip))
 (.seq
 (.reg false [2] [⟨(some 7), none, false, .mov (.t 0)⟩,
 ⟨(some 2), none, false, .mov (.t 7)⟩])
 .ret)))
theorem c137 : (Go.Proofs.Try.f137).body.bind (comp prog.P (1, (Go.Proofs.Try.f137).ntmps) lv137) = some m137 := by kernel_rfl
theorem r137 : resOK prog.P (Go.Proofs.Try.f137).results.toList = true := by kernel_rfl

/-- slices.insertionSortCmpFunc[impl.Appeal] -/
def lv138 : List (Nat × List Nat) := [(0, [0, 1, 2, 3, 8]), (1, [0, 1, 2, 3, 8, 14]), (2, [0, 1, 2, 3, 8]), (3, [0, 1, 2, 3, 8, 9]), (4, [0, 1, 2, 3, 8, 9, 34]), (5, [0, 1, 2, 3, 8, 9]), (6, [0, 1, 2, 3, 8, 9]), (1000006, [3, 15, 16, 17, 1, 0, 1, 1, 1, 2, 1, 3, 1, 4, 1, 5, 1, 6, 1, 7, 1, 8, 1, 9, 1, 10, 1, 11, 1, 12, 1, 13, 1, 14, 2, 15, 2, 16, 2, 17, 0])]
def m138 : MC :=
  (.seq
 (.reg false [0, 1, 2, 3, 8] [⟨(some 10), none, false, .mov (.t 1)⟩,
 ⟨(some 11), none, false, .bin .add (.t 10) (.k (.d (.int .i64 1)))⟩,
 ⟨(some 8), none, false, .mov (.t 11)⟩])
 (.block 0
 (.loop
 (.seq
 (.seq
 (.reg false [0, 1, 2, 3, 8, 14] [⟨(some 12), none, false, .mov (.t 8)⟩,
 ⟨(some 13), none, false, .mov (.t 2)⟩,
 ⟨(some 14), none, false, .bin .lss (.t 12) (.t 13)⟩])
 (.cond (.t 14)
 .skip
 (.exit 0)))
 (.seq
 (.block 1
 (.seq
 (.reg false [0, 1, 2, 3, 8, 9] [⟨(some 17), none, false, .mov (.t 8)⟩,
 ⟨(some 9), none, false, .mov (.t 17)⟩])
 (.block 2
 (.loop
 (.seq
 (.seq
 (.reg true [0, 1, 2, 3, 8, 9, 34] [⟨(some 18), none, false, .mov (.t 9)⟩,
 ⟨(some 19), none, false, .mov (.t 1)⟩,
 ⟨(some 20), none, false, .bin .gtr (.t 18) (.t 19)⟩,
 ⟨(some 21), none, false, .mov (.t 20)⟩,
 ⟨(some 22), (some (21, true)), false, .mov (.t 3)⟩,
 ⟨(some 23), (some (21, true)), false, .mov (.t 0)⟩,
 ⟨(some 24), (some (21, true)), false, .mov (.t 9)⟩,
 ⟨(some 25), (some (21, true)), false, .ia 6 (.t 23) (.t 24)⟩,
 ⟨(some 26), (some (21, true)), false, .ld (some 6) (.t 25)⟩,
 ⟨(some 27), (some (21, true)), false, .mov (.t 0)⟩,
 ⟨(some 28), (some (21, true)), false, .mov (.t 9)⟩,
 ⟨(some 29), (some (21, true)), false, .bin .sub (.t 28) (.k (.d (.int .i64 1)))⟩,
 ⟨(some 30), (some (21, true)), false, .ia 6 (.t 27) (.t 29)⟩,
 ⟨(some 31), (some (21, true)), false, .ld (some 6) (.t 30)⟩,
 ⟨(some 32), (some (21, true)), false, .callV (.t 22) [(.t 26), (.t 31)]⟩,
 ⟨(some 33), (some (21, true)), false, .bin .lss (.t 32) (.k (.d (.int .i64 0)))⟩,
 ⟨(some 34), none, false, .pick (.t 21) (.t 33) (.k (.d (.bool false)))⟩])
 (.cond (.t 34)
 .skip
 (.exit 2)))
 (.seq
 (.block 3
 (.any [15, 16, 17] [0, 1, 2, 3, 8, 9] (.q 0 ⟨(some 37), none, false, .mov (.t 0)⟩ (.q 1 ⟨(some 38), none, false, .mov (.t 9)⟩ (.q 2 ⟨(some 39), none, false, .mov (.t 0)⟩ (.q 3 ⟨(some 40), none, false, .mov (.t 9)⟩ (.q 4 ⟨(some 41), none, false, .bin .sub (.t 40) (.k (.d (.int .i64 1)))⟩ (.q 5 ⟨(some 42), none, false, .mov (.t 0)⟩ (.q 6 ⟨(some 43), none, false, .mov (.t 9)⟩ (.q 7 ⟨(some 44), none, false, .bin .sub (.t 43) (.k (.d (.int .i64 1)))⟩ (.q 8 ⟨(some 45), none, false, .ia 6 (.t 42) (.t 44)⟩ (.q 9 ⟨(some 46), none, false, .ld (some 6) (.t 45)⟩ (.q 10 ⟨(some 47), none, false, .mov (.t 0)⟩ (.q 11 ⟨(some 48), none, false, .mov (.t 9)⟩ (.q 12 ⟨(some 49), none, false, .ia 6 (.t 47) (.t 48)⟩ (.q 13 ⟨(some 50), none, false, .ld (some 6) (.t 49)⟩ (.q 14 ⟨(some 51), none, false, .ia 6 (.t 37) (.t 38)⟩ (.e 15 ⟨none, none, true, .st 6 (.t 51) (.t 46)⟩ (.e 16 ⟨(some 52), none, false, .ia 6 (.t 39) (.t 41)⟩ (.e 17 ⟨none, none, true, .st 6 (.t 52) (.t 50)⟩ .done))))))))))))))))))))
 (.reg false [0, 1, 2, 3, 8, 9] [⟨(some 35), none, false, .mov (.t 9)⟩,
 ⟨(some 36), none, false, .bin .sub (.t 35) (.k (.d (.int .i64 1)))⟩,
 ⟨(some 9), none, false, .mov (.t 36)⟩])))))))
 (.reg false [0, 1, 2, 3, 8] [⟨(some 15), none, false, .mov (.t 8)⟩,
 ⟨(some 16), none, false, .bin .add (.t 15) (.k (.d (.int .i64 1)))⟩,
 ⟨(some 8), none, false, .mov (.t 16)⟩]))))))
theorem c138 : (Go.Proofs.Try.f138).body.bind (comp prog.P (4, (Go.Proofs.Try.f138).ntmps) lv138) = some m138 := by kernel_rfl
theorem r138 : resOK prog.P (Go.Proofs.Try.f138).results.toList = true := by kernel_rfl

end Go.Pe.Try
