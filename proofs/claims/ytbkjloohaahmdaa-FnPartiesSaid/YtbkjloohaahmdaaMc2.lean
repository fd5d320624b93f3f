/-
The compact code of the functions that the law reaches, printed by gen.py, each with the proof that the machine's code is compiled to it.
-/
import Derived.Test.YtbkjloohaahmdaaMc1
import Derived.Test.YtbkjloohaahmdaaProg
import Derived.KernelRfl
set_option maxRecDepth 100000
namespace Go.Pe.Try
open Go.Pe

/-- spec.DaysLeft -/
def lv41 : List (Nat × List Nat) := [(0, [0, 1, 2]), (1, [0, 2, 8]), (2, [0, 2, 8, 40]), (3, [6, 7]), (4, [6, 7])]
def m41 : MC :=
  (.seq
 (.reg false [0, 1, 2] [⟨(some 6), none, false, .mov (.k (.d (.int .i64 0)))⟩,
 ⟨(some 7), none, false, .mov (.k (.d (.bool false)))⟩])
 (.seq
 (.reg false [0, 2, 8] [⟨(some 9), none, false, .mov (.t 0)⟩,
 ⟨(some 10), none, false, .mov (.t 1)⟩,
 ⟨(some 11), none, true, .call 62 [(.t 9), (.t 10)]⟩,
 ⟨(some 8), none, false, .mov (.t 11)⟩])
 (.seq
 (.seq
 (.reg false [0, 2, 8, 40] [⟨(some 12), none, false, .mov (.t 0)⟩,
 ⟨(some 13), none, true, .call 63 [(.t 12)]⟩,
 ⟨(some 14), none, false, .un .not (.t 13)⟩,
 ⟨(some 15), none, false, .mov (.t 14)⟩,
 ⟨(some 16), (some (15, false)), false, .mov (.t 8)⟩,
 ⟨(some 17), (some (15, false)), false, .bin .lss (.t 16) (.k (.d (.int .i64 0)))⟩,
 ⟨(some 18), none, false, .pick (.t 15) (.k (.d (.bool true))) (.t 17)⟩,
 ⟨(some 19), none, false, .mov (.t 18)⟩,
 ⟨(some 20), (some (19, false)), false, .mov (.t 0)⟩,
 ⟨(some 21), (some (19, false)), false, .mov (.t 8)⟩,
 ⟨(some 22), (some (19, false)), false, .ia 6 (.t 20) (.t 21)⟩,
 ⟨(some 23), (some (19, false)), false, .fa 5 5 (.t 22)⟩,
 ⟨(some 24), (some (19, false)), false, .ld none (.t 23)⟩,
 ⟨(some 25), (some (19, false)), false, .bin .neq (.t 24) (.k (.d (.int .i64 0)))⟩,
 ⟨(some 26), none, false, .pick (.t 19) (.k (.d (.bool true))) (.t 25)⟩,
 ⟨(some 27), none, false, .mov (.t 26)⟩,
 ⟨(some 28), (some (27, false)), false, .mov (.t 2)⟩,
 ⟨(some 29), (some (27, false)), true, .call 96 [(.t 28)]⟩,
 ⟨(some 30), (some (27, false)), false, .un .not (.t 29)⟩,
 ⟨(some 31), none, false, .pick (.t 27) (.k (.d (.bool true))) (.t 30)⟩,
 ⟨(some 32), none, false, .mov (.t 31)⟩,
 ⟨(some 33), (some (32, false)), false, .mov (.t 2)⟩,
 ⟨(some 34), (some (32, false)), false, .mov (.t 0)⟩,
 ⟨(some 35), (some (32, false)), false, .mov (.t 8)⟩,
 ⟨(some 36), (some (32, false)), false, .ia 6 (.t 34) (.t 35)⟩,
 ⟨(some 37), (some (32, false)), false, .fa 2 2 (.t 36)⟩,
 ⟨(some 38), (some (32, false)), false, .ld none (.t 37)⟩,
 ⟨(some 39), (some (32, false)), false, .bin .lss (.t 33) (.t 38)⟩,
 ⟨(some 40), none, false, .pick (.t 32) (.k (.d (.bool true))) (.t 39)⟩])
 (.cond (.t 40)
 (.seq
 (.reg false [6, 7] [⟨(some 6), none, false, .mov (.k (.d (.int .i64 0)))⟩,
 ⟨(some 7), none, false, .mov (.k (.d (.bool false)))⟩])
 .ret)
 .skip))
 (.seq
 (.reg false [6, 7] [⟨(some 41), none, false, .mov (.t 2)⟩,
 ⟨(some 42), none, false, .bin .sub (.k (.d (.int .i64 60))) (.t 41)⟩,
 ⟨(some 43), none, false, .mov (.t 0)⟩,
 ⟨(some 44), none, false, .mov (.t 8)⟩,
 ⟨(some 45), none, false, .ia 6 (.t 43) (.t 44)⟩,
 ⟨(some 46), none, false, .fa 2 2 (.t 45)⟩,
 ⟨(some 47), none, false, .ld none (.t 46)⟩,
 ⟨(some 48), none, false, .bin .add (.t 42) (.t 47)⟩,
 ⟨(some 49), none, true, .call 100 [(.k (.d (.int .i64 0))), (.t 48)]⟩,
 ⟨(some 6), none, false, .mov (.t 49)⟩,
 ⟨(some 7), none, false, .mov (.k (.d (.bool true)))⟩])
 .ret))))
theorem c41 : (Go.Proofs.Try.f41).body.bind (comp prog.P (3, (Go.Proofs.Try.f41).ntmps) lv41) = some m41 := by kernel_rfl
theorem r41 : resOK prog.P (Go.Proofs.Try.f41).results.toList = true := by kernel_rfl

/-- spec.DrawBusiestParty -/
def lv42 : List (Nat × List Nat) := [(0, [0]), (1, [2])]
def m42 : MC :=
  (.seq
 (.reg false [0] [⟨(some 2), none, false, .mov (.k .nil)⟩])
 (.seq
 (.reg false [2] [⟨(some 3), none, false, .mov (.t 0)⟩,
 ⟨(some 4), none, true, .call 101 [(.t 3)]⟩,
 ⟨(some 2), none, false, .mov (.t 4)⟩])
 .ret))
theorem c42 : (Go.Proofs.Try.f42).body.bind (comp prog.P (1, (Go.Proofs.Try.f42).ntmps) lv42) = some m42 := by kernel_rfl
theorem r42 : resOK prog.P (Go.Proofs.Try.f42).results.toList = true := by kernel_rfl

/-- impl.BusiestParty -/
def lv43 : List (Nat × List Nat) := [(0, [0]), (1, [0, 13]), (2, [2, 3, 4]), (3, [0, 5, 6]), (4, [0, 5, 6, 7]), (5, [0, 5, 6, 7, 15]), (6, [0, 5, 6, 7]), (7, [0, 5, 6, 7, 8]), (8, [0, 5, 6, 7, 8, 18, 19, 20]), (9, [0, 5, 6, 7, 8, 18, 19, 20, 21]), (10, [0, 5, 6, 7, 8, 10, 18, 19, 20]), (11, [0, 5, 6, 7, 8, 18, 19, 20, 27]), (12, [0, 5, 6, 7, 8, 18, 19, 20]), (13, [0, 5, 6, 7, 8, 18, 19, 20]), (14, [0, 5, 6, 7, 8, 33]), (15, [0, 5, 6, 7]), (16, [2, 3, 4])]
def m43 : MC :=
  (.seq
 (.reg false [0] [⟨(some 2), none, false, .mov (.k (.d (.int .i64 0)))⟩,
 ⟨(some 3), none, false, .mov (.k (.d (.int .i64 0)))⟩,
 ⟨(some 4), none, false, .mov (.k (.d (.bool false)))⟩])
 (.seq
 (.seq
 (.reg false [0, 13] [⟨(some 11), none, false, .mov (.t 0)⟩,
 ⟨(some 12), none, true, .call 51 [(.t 11)]⟩,
 ⟨(some 13), none, false, .un .not (.t 12)⟩])
 (.cond (.t 13)
 (.seq
 (.reg false [2, 3, 4] [⟨(some 2), none, false, .mov (.k (.d (.int .i64 0)))⟩,
 ⟨(some 3), none, false, .mov (.k (.d (.int .i64 0)))⟩,
 ⟨(some 4), none, false, .mov (.k (.d (.bool false)))⟩])
 .ret)
 .skip))
 (.seq
 (.reg false [0, 5, 6] [⟨(some 5), none, false, .mov (.k (.d (.int .i64 0)))⟩,
 ⟨(some 6), none, false, .mov (.k (.d (.int .i64 0)))⟩])
 (.seq
 (.seq
 (.reg false [0, 5, 6, 7] [⟨(some 7), none, false, .mov (.k (.d (.int .i64 1)))⟩])
 (.block 0
 (.loop
 (.seq
 (.seq
 (.reg false [0, 5, 6, 7, 15] [⟨(some 14), none, false, .mov (.t 7)⟩,
 ⟨(some 15), none, false, .bin .leq (.t 14) (.k (.d (.int .i64 50)))⟩])
 (.cond (.t 15)
 .skip
 (.exit 0)))
 (.seq
 (.block 1
 (.seq
 (.reg false [0, 5, 6, 7, 8] [⟨(some 8), none, false, .mov (.k (.d (.int .i64 0)))⟩])
 (.seq
 (.seq
 (.reg false [0, 5, 6, 7, 8, 18, 19, 20] [⟨(some 18), none, false, .mov (.t 0)⟩,
 ⟨(some 19), none, false, .len false (.t 18)⟩,
 ⟨(some 20), none, false, .mov (.k (.d (.int .i64 0)))⟩])
 (.block 2
 (.loop
 (.seq
 (.reg false [0, 5, 6, 7, 8, 18, 19, 20, 21] [⟨(some 21), none, false, .bin .lss (.t 20) (.t 19)⟩])
 (.seq
 (.cond (.t 21)
 .skip
 (.exit 2))
 (.seq
 (.block 3
 (.seq
 (.reg false [0, 5, 6, 7, 8, 10, 18, 19, 20] [⟨(some 22), none, false, .ia 6 (.t 18) (.t 20)⟩,
 ⟨(some 23), none, false, .ld (some 6) (.t 22)⟩,
 ⟨(some 10), none, true, .alloc (.st (.cons (.int .i64 0) (.cons (.int .i64 0) (.cons (.int .i64 0) (.cons (.sl true 1 .nil) (.cons (.sl true 1 .nil) (.cons (.int .i64 0) .nil)))))))⟩,
 ⟨none, none, true, .st 6 (.t 10) (.t 23)⟩])
 (.seq
 (.reg false [0, 5, 6, 7, 8, 18, 19, 20, 27] [⟨(some 24), none, false, .fa 3 3 (.t 10)⟩,
 ⟨(some 25), none, false, .ld none (.t 24)⟩,
 ⟨(some 26), none, false, .mov (.t 7)⟩,
 ⟨(some 27), none, true, .call 70 [(.t 25), (.t 26)]⟩])
 (.cond (.t 27)
 (.reg false [0, 5, 6, 7, 8, 18, 19, 20] [⟨(some 28), none, false, .mov (.t 8)⟩,
 ⟨(some 29), none, false, .bin .add (.t 28) (.k (.d (.int .i64 1)))⟩,
 ⟨(some 8), none, false, .mov (.t 29)⟩])
 .skip))))
 (.reg false [0, 5, 6, 7, 8, 18, 19, 20] [⟨(some 30), none, false, .bin .add (.t 20) (.k (.d (.int .i64 1)))⟩,
 ⟨(some 20), none, false, .mov (.t 30)⟩])))))))
 (.seq
 (.reg false [0, 5, 6, 7, 8, 33] [⟨(some 31), none, false, .mov (.t 8)⟩,
 ⟨(some 32), none, false, .mov (.t 6)⟩,
 ⟨(some 33), none, false, .bin .gtr (.t 31) (.t 32)⟩])
 (.cond (.t 33)
 (.reg false [0, 5, 6, 7] [⟨(some 34), none, false, .mov (.t 7)⟩,
 ⟨(some 35), none, false, .mov (.t 8)⟩,
 ⟨(some 5), none, false, .mov (.t 34)⟩,
 ⟨(some 6), none, false, .mov (.t 35)⟩])
 .skip)))))
 (.reg false [0, 5, 6, 7] [⟨(some 16), none, false, .mov (.t 7)⟩,
 ⟨(some 17), none, false, .bin .add (.t 16) (.k (.d (.int .i64 1)))⟩,
 ⟨(some 7), none, false, .mov (.t 17)⟩]))))))
 (.seq
 (.reg false [2, 3, 4] [⟨(some 36), none, false, .mov (.t 5)⟩,
 ⟨(some 37), none, false, .mov (.t 6)⟩,
 ⟨(some 38), none, false, .mov (.t 6)⟩,
 ⟨(some 39), none, false, .bin .gtr (.t 38) (.k (.d (.int .i64 0)))⟩,
 ⟨(some 2), none, false, .mov (.t 36)⟩,
 ⟨(some 3), none, false, .mov (.t 37)⟩,
 ⟨(some 4), none, false, .mov (.t 39)⟩])
 .ret)))))
theorem c43 : (Go.Proofs.Try.f43).body.bind (comp prog.P (1, (Go.Proofs.Try.f43).ntmps) lv43) = some m43 := by kernel_rfl
theorem r43 : resOK prog.P (Go.Proofs.Try.f43).results.toList = true := by kernel_rfl

/-- spec.BusiestParty -/
def lv44 : List (Nat × List Nat) := [(0, [0]), (1, [0, 12]), (2, [2, 3, 4]), (3, [0, 5, 6]), (4, [0, 5, 6, 7]), (5, [0, 5, 6, 7, 14]), (6, [0, 5, 6, 7]), (7, [0, 5, 6, 7, 8]), (8, [0, 5, 6, 7, 8, 9]), (9, [0, 5, 6, 7, 8, 9, 20]), (10, [0, 5, 6, 7, 8, 9]), (11, [0, 5, 6, 7, 8, 9, 29]), (12, [0, 5, 6, 7, 8, 9]), (13, [0, 5, 6, 7, 8, 34]), (14, [0, 5, 7, 8]), (15, [0, 5, 6, 7]), (16, [2, 3, 4])]
def m44 : MC :=
  (.seq
 (.reg false [0] [⟨(some 2), none, false, .mov (.k (.d (.int .i64 0)))⟩,
 ⟨(some 3), none, false, .mov (.k (.d (.int .i64 0)))⟩,
 ⟨(some 4), none, false, .mov (.k (.d (.bool false)))⟩])
 (.seq
 (.seq
 (.reg false [0, 12] [⟨(some 10), none, false, .mov (.t 0)⟩,
 ⟨(some 11), none, true, .call 63 [(.t 10)]⟩,
 ⟨(some 12), none, false, .un .not (.t 11)⟩])
 (.cond (.t 12)
 (.seq
 (.reg false [2, 3, 4] [⟨(some 2), none, false, .mov (.k (.d (.int .i64 0)))⟩,
 ⟨(some 3), none, false, .mov (.k (.d (.int .i64 0)))⟩,
 ⟨(some 4), none, false, .mov (.k (.d (.bool false)))⟩])
 .ret)
 .skip))
 (.seq
 (.reg false [0, 5, 6] [⟨(some 5), none, false, .mov (.k (.d (.int .i64 0)))⟩,
 ⟨(some 6), none, false, .mov (.k (.d (.int .i64 0)))⟩])
 (.seq
 (.seq
 (.reg false [0, 5, 6, 7] [⟨(some 7), none, false, .mov (.k (.d (.int .i64 1)))⟩])
 (.block 0
 (.loop
 (.seq
 (.seq
 (.reg false [0, 5, 6, 7, 14] [⟨(some 13), none, false, .mov (.t 7)⟩,
 ⟨(some 14), none, false, .bin .leq (.t 13) (.k (.d (.int .i64 50)))⟩])
 (.cond (.t 14)
 .skip
 (.exit 0)))
 (.seq
 (.block 1
 (.seq
 (.reg false [0, 5, 6, 7, 8] [⟨(some 8), none, false, .mov (.k (.d (.int .i64 0)))⟩])
 (.seq
 (.seq
 (.reg false [0, 5, 6, 7, 8, 9] [⟨(some 9), none, false, .mov (.k (.d (.int .i64 0)))⟩])
 (.block 2
 (.loop
 (.seq
 (.seq
 (.reg false [0, 5, 6, 7, 8, 9, 20] [⟨(some 17), none, false, .mov (.t 9)⟩,
 ⟨(some 18), none, false, .mov (.t 0)⟩,
 ⟨(some 19), none, false, .len false (.t 18)⟩,
 ⟨(some 20), none, false, .bin .lss (.t 17) (.t 19)⟩])
 (.cond (.t 20)
 .skip
 (.exit 2)))
 (.seq
 (.block 3
 (.seq
 (.reg false [0, 5, 6, 7, 8, 9, 29] [⟨(some 23), none, false, .mov (.t 0)⟩,
 ⟨(some 24), none, false, .mov (.t 9)⟩,
 ⟨(some 25), none, false, .ia 6 (.t 23) (.t 24)⟩,
 ⟨(some 26), none, false, .fa 3 3 (.t 25)⟩,
 ⟨(some 27), none, false, .ld none (.t 26)⟩,
 ⟨(some 28), none, false, .mov (.t 7)⟩,
 ⟨(some 29), none, true, .call 64 [(.t 27), (.t 28)]⟩])
 (.cond (.t 29)
 (.reg false [0, 5, 6, 7, 8, 9] [⟨(some 30), none, false, .mov (.t 8)⟩,
 ⟨(some 31), none, false, .bin .add (.t 30) (.k (.d (.int .i64 1)))⟩,
 ⟨(some 8), none, false, .mov (.t 31)⟩])
 .skip)))
 (.reg false [0, 5, 6, 7, 8, 9] [⟨(some 21), none, false, .mov (.t 9)⟩,
 ⟨(some 22), none, false, .bin .add (.t 21) (.k (.d (.int .i64 1)))⟩,
 ⟨(some 9), none, false, .mov (.t 22)⟩]))))))
 (.seq
 (.reg false [0, 5, 6, 7, 8, 34] [⟨(some 32), none, false, .mov (.t 8)⟩,
 ⟨(some 33), none, false, .mov (.t 6)⟩,
 ⟨(some 34), none, false, .bin .gtr (.t 32) (.t 33)⟩])
 (.cond (.t 34)
 (.seq
 (.reg false [0, 5, 7, 8] [⟨(some 35), none, false, .mov (.t 7)⟩,
 ⟨(some 5), none, false, .mov (.t 35)⟩])
 (.reg false [0, 5, 6, 7] [⟨(some 36), none, false, .mov (.t 8)⟩,
 ⟨(some 6), none, false, .mov (.t 36)⟩]))
 .skip)))))
 (.reg false [0, 5, 6, 7] [⟨(some 15), none, false, .mov (.t 7)⟩,
 ⟨(some 16), none, false, .bin .add (.t 15) (.k (.d (.int .i64 1)))⟩,
 ⟨(some 7), none, false, .mov (.t 16)⟩]))))))
 (.seq
 (.reg false [2, 3, 4] [⟨(some 37), none, false, .mov (.t 5)⟩,
 ⟨(some 38), none, false, .mov (.t 6)⟩,
 ⟨(some 39), none, false, .mov (.t 6)⟩,
 ⟨(some 40), none, false, .bin .gtr (.t 39) (.k (.d (.int .i64 0)))⟩,
 ⟨(some 2), none, false, .mov (.t 37)⟩,
 ⟨(some 3), none, false, .mov (.t 38)⟩,
 ⟨(some 4), none, false, .mov (.t 40)⟩])
 .ret)))))
theorem c44 : (Go.Proofs.Try.f44).body.bind (comp prog.P (1, (Go.Proofs.Try.f44).ntmps) lv44) = some m44 := by kernel_rfl
theorem r44 : resOK prog.P (Go.Proofs.Try.f44).results.toList = true := by kernel_rfl

/-- impl.WonShare -/
def lv45 : List (Nat × List Nat) := [(0, [0]), (1, [0, 5, 6]), (2, [0, 5, 6, 11, 12, 13]), (3, [0, 5, 6, 11, 12, 13, 14]), (4, [0, 5, 6, 8, 11, 12, 13]), (5, [0, 5, 6, 8, 11, 12, 13, 19]), (6, [0, 5, 6, 8, 11, 12, 13]), (7, [0, 5, 6, 11, 12, 13, 29]), (8, [0, 5, 6, 11, 12, 13]), (9, [0, 5, 6, 11, 12, 13]), (10, [5, 6, 39]), (11, [2, 3, 4]), (12, [9, 10]), (13, [2, 3, 4])]
def m45 : MC :=
  (.seq
 (.reg false [0] [⟨(some 2), none, false, .mov (.k (.d (.int .i64 0)))⟩,
 ⟨(some 3), none, false, .mov (.k (.d (.int .i64 0)))⟩,
 ⟨(some 4), none, false, .mov (.k (.d (.bool false)))⟩])
 (.seq
 (.reg false [0, 5, 6] [⟨(some 5), none, false, .mov (.k (.d (.int .i64 0)))⟩,
 ⟨(some 6), none, false, .mov (.k (.d (.int .i64 0)))⟩])
 (.seq
 (.seq
 (.reg false [0, 5, 6, 11, 12, 13] [⟨(some 11), none, false, .mov (.t 0)⟩,
 ⟨(some 12), none, false, .len false (.t 11)⟩,
 ⟨(some 13), none, false, .mov (.k (.d (.int .i64 0)))⟩])
 (.block 0
 (.loop
 (.seq
 (.reg false [0, 5, 6, 11, 12, 13, 14] [⟨(some 14), none, false, .bin .lss (.t 13) (.t 12)⟩])
 (.seq
 (.cond (.t 14)
 .skip
 (.exit 0))
 (.seq
 (.block 1
 (.seq
 (.reg false [0, 5, 6, 8, 11, 12, 13] [⟨(some 15), none, false, .ia 6 (.t 11) (.t 13)⟩,
 ⟨(some 16), none, false, .ld (some 6) (.t 15)⟩,
 ⟨(some 8), none, true, .alloc (.st (.cons (.int .i64 0) (.cons (.int .i64 0) (.cons (.int .i64 0) (.cons (.sl true 1 .nil) (.cons (.sl true 1 .nil) (.cons (.int .i64 0) .nil)))))))⟩,
 ⟨none, none, true, .st 6 (.t 8) (.t 16)⟩])
 (.seq
 (.seq
 (.reg false [0, 5, 6, 8, 11, 12, 13, 19] [⟨(some 17), none, false, .fa 5 5 (.t 8)⟩,
 ⟨(some 18), none, false, .ld none (.t 17)⟩,
 ⟨(some 19), none, false, .bin .eql (.t 18) (.k (.d (.int .i64 2)))⟩])
 (.cond (.t 19)
 (.reg false [0, 5, 6, 8, 11, 12, 13] [⟨(some 20), none, false, .mov (.t 5)⟩,
 ⟨(some 21), none, false, .bin .add (.t 20) (.k (.d (.int .i64 1)))⟩,
 ⟨(some 5), none, false, .mov (.t 21)⟩])
 .skip))
 (.seq
 (.reg false [0, 5, 6, 11, 12, 13, 29] [⟨(some 22), none, false, .fa 5 5 (.t 8)⟩,
 ⟨(some 23), none, false, .ld none (.t 22)⟩,
 ⟨(some 24), none, false, .bin .eql (.t 23) (.k (.d (.int .i64 2)))⟩,
 ⟨(some 25), none, false, .mov (.t 24)⟩,
 ⟨(some 26), (some (25, false)), false, .fa 5 5 (.t 8)⟩,
 ⟨(some 27), (some (25, false)), false, .ld none (.t 26)⟩,
 ⟨(some 28), (some (25, false)), false, .bin .eql (.t 27) (.k (.d (.int .i64 3)))⟩,
 ⟨(some 29), none, false, .pick (.t 25) (.k (.d (.bool true))) (.t 28)⟩])
 (.cond (.t 29)
 (.reg false [0, 5, 6, 11, 12, 13] [⟨(some 30), none, false, .mov (.t 6)⟩,
 ⟨(some 31), none, false, .bin .add (.t 30) (.k (.d (.int .i64 1)))⟩,
 ⟨(some 6), none, false, .mov (.t 31)⟩])
 .skip)))))
 (.reg false [0, 5, 6, 11, 12, 13] [⟨(some 32), none, false, .bin .add (.t 13) (.k (.d (.int .i64 1)))⟩,
 ⟨(some 13), none, false, .mov (.t 32)⟩])))))))
 (.seq
 (.seq
 (.reg false [5, 6, 39] [⟨(some 33), none, false, .mov (.t 0)⟩,
 ⟨(some 34), none, true, .call 51 [(.t 33)]⟩,
 ⟨(some 35), none, false, .un .not (.t 34)⟩,
 ⟨(some 36), none, false, .mov (.t 35)⟩,
 ⟨(some 37), (some (36, false)), false, .mov (.t 6)⟩,
 ⟨(some 38), (some (36, false)), false, .bin .eql (.t 37) (.k (.d (.int .i64 0)))⟩,
 ⟨(some 39), none, false, .pick (.t 36) (.k (.d (.bool true))) (.t 38)⟩])
 (.cond (.t 39)
 (.seq
 (.reg false [2, 3, 4] [⟨(some 2), none, false, .mov (.k (.d (.int .i64 0)))⟩,
 ⟨(some 3), none, false, .mov (.k (.d (.int .i64 0)))⟩,
 ⟨(some 4), none, false, .mov (.k (.d (.bool false)))⟩])
 .ret)
 .skip))
 (.seq
 (.reg false [9, 10] [⟨(some 41), none, false, .mov (.t 5)⟩,
 ⟨(some 42), none, false, .mov (.t 6)⟩,
 ⟨(some 43), none, true, .call 82 [(.t 41), (.t 42)]⟩,
 ⟨(some 40), none, false, .mov (.t 43)⟩,
 ⟨(some 44), none, false, .ext (.t 40) 0⟩,
 ⟨(some 45), none, false, .ext (.t 40) 1⟩,
 ⟨(some 9), none, false, .mov (.t 44)⟩,
 ⟨(some 10), none, false, .mov (.t 45)⟩])
 (.seq
 (.reg false [2, 3, 4] [⟨(some 46), none, false, .mov (.t 9)⟩,
 ⟨(some 47), none, false, .mov (.t 10)⟩,
 ⟨(some 2), none, false, .mov (.t 46)⟩,
 ⟨(some 3), none, false, .mov (.t 47)⟩,
 ⟨(some 4), none, false, .mov (.k (.d (.bool true)))⟩])
 .ret))))))
theorem c45 : (Go.Proofs.Try.f45).body.bind (comp prog.P (1, (Go.Proofs.Try.f45).ntmps) lv45) = some m45 := by kernel_rfl
theorem r45 : resOK prog.P (Go.Proofs.Try.f45).results.toList = true := by kernel_rfl

/-- spec.WonShare -/
def lv46 : List (Nat × List Nat) := [(0, [0]), (1, [0, 12]), (2, [2, 3, 4]), (3, [0, 5, 6]), (4, [0, 5, 6, 7]), (5, [0, 5, 6, 7, 16]), (6, [0, 5, 6, 7]), (7, [0, 5, 6, 7, 23]), (8, [0, 5, 6, 7, 23, 24]), (9, [0, 5, 6, 7]), (10, [0, 5, 6, 7]), (11, [0, 5, 6, 7, 30]), (12, [0, 5, 6, 7]), (13, [5, 6, 35]), (14, [2, 3, 4]), (15, [8, 9]), (16, [2, 3, 4])]
def m46 : MC :=
  (.seq
 (.reg false [0] [⟨(some 2), none, false, .mov (.k (.d (.int .i64 0)))⟩,
 ⟨(some 3), none, false, .mov (.k (.d (.int .i64 0)))⟩,
 ⟨(some 4), none, false, .mov (.k (.d (.bool false)))⟩])
 (.seq
 (.seq
 (.reg false [0, 12] [⟨(some 10), none, false, .mov (.t 0)⟩,
 ⟨(some 11), none, true, .call 63 [(.t 10)]⟩,
 ⟨(some 12), none, false, .un .not (.t 11)⟩])
 (.cond (.t 12)
 (.seq
 (.reg false [2, 3, 4] [⟨(some 2), none, false, .mov (.k (.d (.int .i64 0)))⟩,
 ⟨(some 3), none, false, .mov (.k (.d (.int .i64 0)))⟩,
 ⟨(some 4), none, false, .mov (.k (.d (.bool false)))⟩])
 .ret)
 .skip))
 (.seq
 (.reg false [0, 5, 6] [⟨(some 5), none, false, .mov (.k (.d (.int .i64 0)))⟩,
 ⟨(some 6), none, false, .mov (.k (.d (.int .i64 0)))⟩])
 (.seq
 (.seq
 (.reg false [0, 5, 6, 7] [⟨(some 7), none, false, .mov (.k (.d (.int .i64 0)))⟩])
 (.block 0
 (.loop
 (.seq
 (.seq
 (.reg false [0, 5, 6, 7, 16] [⟨(some 13), none, false, .mov (.t 7)⟩,
 ⟨(some 14), none, false, .mov (.t 0)⟩,
 ⟨(some 15), none, false, .len false (.t 14)⟩,
 ⟨(some 16), none, false, .bin .lss (.t 13) (.t 15)⟩])
 (.cond (.t 16)
 .skip
 (.exit 0)))
 (.seq
 (.block 1
 (.seq
 (.reg false [0, 5, 6, 7, 23] [⟨(some 19), none, false, .mov (.t 0)⟩,
 ⟨(some 20), none, false, .mov (.t 7)⟩,
 ⟨(some 21), none, false, .ia 6 (.t 19) (.t 20)⟩,
 ⟨(some 22), none, false, .fa 5 5 (.t 21)⟩,
 ⟨(some 23), none, false, .ld none (.t 22)⟩])
 (.block 2
 (.seq
 (.reg false [0, 5, 6, 7, 23, 24] [⟨(some 25), none, false, .bin .eql (.t 23) (.k (.d (.int .i64 2)))⟩,
 ⟨(some 24), none, false, .mov (.t 25)⟩])
 (.cond (.t 24)
 (.seq
 (.reg false [0, 5, 6, 7] [⟨(some 26), none, false, .mov (.t 5)⟩,
 ⟨(some 27), none, false, .bin .add (.t 26) (.k (.d (.int .i64 1)))⟩,
 ⟨(some 5), none, false, .mov (.t 27)⟩])
 (.reg false [0, 5, 6, 7] [⟨(some 28), none, false, .mov (.t 6)⟩,
 ⟨(some 29), none, false, .bin .add (.t 28) (.k (.d (.int .i64 1)))⟩,
 ⟨(some 6), none, false, .mov (.t 29)⟩]))
 (.seq
 (.reg false [0, 5, 6, 7, 30] [⟨(some 31), none, false, .bin .eql (.t 23) (.k (.d (.int .i64 3)))⟩,
 ⟨(some 30), none, false, .mov (.t 31)⟩])
 (.cond (.t 30)
 (.reg false [0, 5, 6, 7] [⟨(some 32), none, false, .mov (.t 6)⟩,
 ⟨(some 33), none, false, .bin .add (.t 32) (.k (.d (.int .i64 1)))⟩,
 ⟨(some 6), none, false, .mov (.t 33)⟩])
 .skip)))))))
 (.reg false [0, 5, 6, 7] [⟨(some 17), none, false, .mov (.t 7)⟩,
 ⟨(some 18), none, false, .bin .add (.t 17) (.k (.d (.int .i64 1)))⟩,
 ⟨(some 7), none, false, .mov (.t 18)⟩]))))))
 (.seq
 (.seq
 (.reg false [5, 6, 35] [⟨(some 34), none, false, .mov (.t 6)⟩,
 ⟨(some 35), none, false, .bin .eql (.t 34) (.k (.d (.int .i64 0)))⟩])
 (.cond (.t 35)
 (.seq
 (.reg false [2, 3, 4] [⟨(some 2), none, false, .mov (.k (.d (.int .i64 0)))⟩,
 ⟨(some 3), none, false, .mov (.k (.d (.int .i64 0)))⟩,
 ⟨(some 4), none, false, .mov (.k (.d (.bool false)))⟩])
 .ret)
 .skip))
 (.seq
 (.reg false [8, 9] [⟨(some 37), none, false, .mov (.t 5)⟩,
 ⟨(some 38), none, false, .mov (.t 6)⟩,
 ⟨(some 39), none, true, .call 83 [(.t 37), (.t 38)]⟩,
 ⟨(some 36), none, false, .mov (.t 39)⟩,
 ⟨(some 40), none, false, .ext (.t 36) 0⟩,
 ⟨(some 41), none, false, .ext (.t 36) 1⟩,
 ⟨(some 8), none, false, .mov (.t 40)⟩,
 ⟨(some 9), none, false, .mov (.t 41)⟩])
 (.seq
 (.reg false [2, 3, 4] [⟨(some 42), none, false, .mov (.t 8)⟩,
 ⟨(some 43), none, false, .mov (.t 9)⟩,
 ⟨(some 2), none, false, .mov (.t 42)⟩,
 ⟨(some 3), none, false, .mov (.t 43)⟩,
 ⟨(some 4), none, false, .mov (.k (.d (.bool true)))⟩])
 .ret)))))))
theorem c46 : (Go.Proofs.Try.f46).body.bind (comp prog.P (1, (Go.Proofs.Try.f46).ntmps) lv46) = some m46 := by kernel_rfl
theorem r46 : resOK prog.P (Go.Proofs.Try.f46).results.toList = true := by kernel_rfl

/-- impl.AreAppeals -/
def lv51 : List (Nat × List Nat) := [(0, [0]), (1, [0, 5, 6, 7]), (2, [0, 5, 6, 7, 8]), (3, [0, 3, 4, 5, 6, 7]), (4, [0, 3, 4, 5, 6, 7, 29]), (5, [2]), (6, [0, 5, 6, 7, 38]), (7, [2]), (8, [0, 5, 6, 7]), (9, [2])]
def m51 : MC :=
  (.seq
 (.reg false [0] [⟨(some 2), none, false, .mov (.k (.d (.bool false)))⟩])
 (.seq
 (.seq
 (.reg false [0, 5, 6, 7] [⟨(some 5), none, false, .mov (.t 0)⟩,
 ⟨(some 6), none, false, .len false (.t 5)⟩,
 ⟨(some 7), none, false, .mov (.k (.d (.int .i64 0)))⟩])
 (.block 0
 (.loop
 (.seq
 (.reg false [0, 5, 6, 7, 8] [⟨(some 8), none, false, .bin .lss (.t 7) (.t 6)⟩])
 (.seq
 (.cond (.t 8)
 .skip
 (.exit 0))
 (.seq
 (.block 1
 (.seq
 (.reg false [0, 3, 4, 5, 6, 7] [⟨(some 9), none, false, .mov (.t 7)⟩,
 ⟨(some 10), none, false, .ia 6 (.t 5) (.t 7)⟩,
 ⟨(some 11), none, false, .ld (some 6) (.t 10)⟩,
 ⟨(some 4), none, true, .alloc (.st (.cons (.int .i64 0) (.cons (.int .i64 0) (.cons (.int .i64 0) (.cons (.sl true 1 .nil) (.cons (.sl true 1 .nil) (.cons (.int .i64 0) .nil)))))))⟩,
 ⟨(some 3), none, false, .mov (.t 9)⟩,
 ⟨none, none, true, .st 6 (.t 4) (.t 11)⟩])
 (.seq
 (.seq
 (.reg true [0, 3, 4, 5, 6, 7, 29] [⟨(some 12), none, false, .ld (some 6) (.t 4)⟩,
 ⟨(some 13), none, false, .callP 59 [(.t 12)]⟩,
 ⟨(some 14), none, false, .un .not (.t 13)⟩,
 ⟨(some 15), none, false, .mov (.t 14)⟩,
 ⟨(some 16), (some (15, false)), false, .mov (.t 3)⟩,
 ⟨(some 17), (some (15, false)), false, .bin .gtr (.t 16) (.k (.d (.int .i64 0)))⟩,
 ⟨(some 18), (some (15, false)), false, .mov (.t 17)⟩,
 ⟨(some 19), (some (18, true)), false, .mov (.t 0)⟩,
 ⟨(some 20), (some (18, true)), false, .mov (.t 3)⟩,
 ⟨(some 21), (some (18, true)), false, .bin .sub (.t 20) (.k (.d (.int .i64 1)))⟩,
 ⟨(some 22), (some (18, true)), false, .ia 6 (.t 19) (.t 21)⟩,
 ⟨(some 23), (some (18, true)), false, .fa 0 0 (.t 22)⟩,
 ⟨(some 24), (some (18, true)), false, .ld none (.t 23)⟩,
 ⟨(some 25), (some (18, true)), false, .fa 0 0 (.t 4)⟩,
 ⟨(some 26), (some (18, true)), false, .ld none (.t 25)⟩,
 ⟨(some 27), (some (18, true)), false, .bin .geq (.t 24) (.t 26)⟩,
 ⟨(some 28), (some (15, false)), false, .pick (.t 18) (.t 27) (.k (.d (.bool false)))⟩,
 ⟨(some 29), none, false, .pick (.t 15) (.k (.d (.bool true))) (.t 28)⟩])
 (.cond (.t 29)
 (.seq
 (.reg false [2] [⟨(some 2), none, false, .mov (.k (.d (.bool false)))⟩])
 .ret)
 .skip))
 (.seq
 (.reg false [0, 5, 6, 7, 38] [⟨(some 30), none, false, .ld (some 6) (.t 4)⟩,
 ⟨(some 31), none, true, .call 105 [(.t 30)]⟩,
 ⟨(some 32), none, false, .mov (.t 31)⟩,
 ⟨(some 33), (some (32, true)), false, .mov (.t 0)⟩,
 ⟨(some 34), (some (32, true)), false, .mov (.t 3)⟩,
 ⟨(some 35), (some (32, true)), true, .cut 6 (.t 33) (.t 34)⟩,
 ⟨(some 36), (some (32, true)), false, .clos 107 [(.t 4)]⟩,
 ⟨(some 37), (some (32, true)), true, .call 106 [(.t 35), (.t 36)]⟩,
 ⟨(some 38), none, false, .pick (.t 32) (.t 37) (.k (.d (.bool false)))⟩])
 (.cond (.t 38)
 (.seq
 (.reg false [2] [⟨(some 2), none, false, .mov (.k (.d (.bool false)))⟩])
 .ret)
 .skip)))))
 (.reg false [0, 5, 6, 7] [⟨(some 39), none, false, .bin .add (.t 7) (.k (.d (.int .i64 1)))⟩,
 ⟨(some 7), none, false, .mov (.t 39)⟩])))))))
 (.seq
 (.reg false [2] [⟨(some 40), none, false, .mov (.t 0)⟩,
 ⟨(some 41), none, false, .len false (.t 40)⟩,
 ⟨(some 42), none, false, .bin .leq (.t 41) (.k (.d (.int .i64 10)))⟩,
 ⟨(some 2), none, false, .mov (.t 42)⟩])
 .ret)))
theorem c51 : (Go.Proofs.Try.f51).body.bind (comp prog.P (1, (Go.Proofs.Try.f51).ntmps) lv51) = some m51 := by kernel_rfl
theorem r51 : resOK prog.P (Go.Proofs.Try.f51).results.toList = true := by kernel_rfl

/-- impl.IsAppeal -/
def lv59 : List (Nat × List Nat) := [(0, [1]), (1, [1, 24]), (2, [2]), (3, [1, 45]), (4, [2]), (5, [1, 49]), (6, [2]), (7, [2])]
def m59 : MC :=
  (.seq
 (.reg false [1] [⟨(some 1), none, true, .box (.t 0)⟩,
 ⟨(some 2), none, false, .mov (.k (.d (.bool false)))⟩])
 (.seq
 (.seq
 (.reg false [1, 24] [⟨(some 3), none, false, .fa 0 0 (.t 1)⟩,
 ⟨(some 4), none, false, .ld none (.t 3)⟩,
 ⟨(some 5), none, true, .call 111 [(.t 4), (.k (.d (.int .i64 1))), (.k (.d (.int .i64 999)))]⟩,
 ⟨(some 6), none, false, .un .not (.t 5)⟩,
 ⟨(some 7), none, false, .mov (.t 6)⟩,
 ⟨(some 8), (some (7, false)), false, .fa 1 1 (.t 1)⟩,
 ⟨(some 9), (some (7, false)), false, .ld none (.t 8)⟩,
 ⟨(some 10), (some (7, false)), true, .call 111 [(.t 9), (.k (.d (.int .i64 1))), (.k (.d (.int .i64 999)))]⟩,
 ⟨(some 11), (some (7, false)), false, .un .not (.t 10)⟩,
 ⟨(some 12), none, false, .pick (.t 7) (.k (.d (.bool true))) (.t 11)⟩,
 ⟨(some 13), none, false, .mov (.t 12)⟩,
 ⟨(some 14), (some (13, false)), false, .fa 2 2 (.t 1)⟩,
 ⟨(some 15), (some (13, false)), false, .ld none (.t 14)⟩,
 ⟨(some 16), (some (13, false)), true, .call 94 [(.t 15)]⟩,
 ⟨(some 17), (some (13, false)), false, .un .not (.t 16)⟩,
 ⟨(some 18), none, false, .pick (.t 13) (.k (.d (.bool true))) (.t 17)⟩,
 ⟨(some 19), none, false, .mov (.t 18)⟩,
 ⟨(some 20), (some (19, false)), false, .fa 5 5 (.t 1)⟩,
 ⟨(some 21), (some (19, false)), false, .ld none (.t 20)⟩,
 ⟨(some 22), (some (19, false)), true, .call 111 [(.t 21), (.k (.d (.int .i64 0))), (.k (.d (.int .i64 4)))]⟩,
 ⟨(some 23), (some (19, false)), false, .un .not (.t 22)⟩,
 ⟨(some 24), none, false, .pick (.t 19) (.k (.d (.bool true))) (.t 23)⟩])
 (.cond (.t 24)
 (.seq
 (.reg false [2] [⟨(some 2), none, false, .mov (.k (.d (.bool false)))⟩])
 .ret)
 .skip))
 (.seq
 (.seq
 (.reg false [1, 45] [⟨(some 25), none, false, .fa 3 3 (.t 1)⟩,
 ⟨(some 26), none, false, .ld none (.t 25)⟩,
 ⟨(some 27), none, false, .len false (.t 26)⟩,
 ⟨(some 28), none, false, .bin .gtr (.t 27) (.k (.d (.int .i64 6)))⟩,
 ⟨(some 29), none, false, .mov (.t 28)⟩,
 ⟨(some 30), (some (29, false)), false, .fa 3 3 (.t 1)⟩,
 ⟨(some 31), (some (29, false)), false, .ld none (.t 30)⟩,
 ⟨(some 32), (some (29, false)), true, .call 112 [(.t 31)]⟩,
 ⟨(some 33), (some (29, false)), false, .un .not (.t 32)⟩,
 ⟨(some 34), none, false, .pick (.t 29) (.k (.d (.bool true))) (.t 33)⟩,
 ⟨(some 35), none, false, .mov (.t 34)⟩,
 ⟨(some 36), (some (35, false)), false, .fa 4 4 (.t 1)⟩,
 ⟨(some 37), (some (35, false)), false, .ld none (.t 36)⟩,
 ⟨(some 38), (some (35, false)), true, .call 112 [(.t 37)]⟩,
 ⟨(some 39), (some (35, false)), false, .un .not (.t 38)⟩,
 ⟨(some 40), none, false, .pick (.t 35) (.k (.d (.bool true))) (.t 39)⟩,
 ⟨(some 41), none, false, .mov (.t 40)⟩,
 ⟨(some 42), (some (41, false)), false, .fa 3 3 (.t 1)⟩,
 ⟨(some 43), (some (41, false)), false, .ld none (.t 42)⟩,
 ⟨(some 44), (some (41, false)), true, .call 113 [(.t 43), (.k (.d (.clo 114 .nil)))]⟩,
 ⟨(some 45), none, false, .pick (.t 41) (.k (.d (.bool true))) (.t 44)⟩])
 (.cond (.t 45)
 (.seq
 (.reg false [2] [⟨(some 2), none, false, .mov (.k (.d (.bool false)))⟩])
 .ret)
 .skip))
 (.seq
 (.seq
 (.reg false [1, 49] [⟨(some 46), none, false, .fa 4 4 (.t 1)⟩,
 ⟨(some 47), none, false, .ld none (.t 46)⟩,
 ⟨(some 48), none, false, .clos 115 [(.t 1)]⟩,
 ⟨(some 49), none, true, .call 113 [(.t 47), (.t 48)]⟩])
 (.cond (.t 49)
 (.seq
 (.reg false [2] [⟨(some 2), none, false, .mov (.k (.d (.bool false)))⟩])
 .ret)
 .skip))
 (.seq
 (.reg false [2] [⟨(some 50), none, false, .fa 4 4 (.t 1)⟩,
 ⟨(some 51), none, false, .ld none (.t 50)⟩,
 ⟨(some 52), none, false, .len false (.t 51)⟩,
 ⟨(some 53), none, false, .fa 3 3 (.t 1)⟩,
 ⟨(some 54), none, false, .ld none (.t 53)⟩,
 ⟨(some 55), none, false, .len false (.t 54)⟩,
 ⟨(some 56), none, false, .bin .lss (.t 52) (.t 55)⟩,
 ⟨(some 57), none, false, .fa 5 5 (.t 1)⟩,
 ⟨(some 58), none, false, .ld none (.t 57)⟩,
 ⟨(some 59), none, false, .bin .eql (.t 58) (.k (.d (.int .i64 0)))⟩,
 ⟨(some 60), none, false, .mov (.t 59)⟩,
 ⟨(some 61), (some (60, false)), false, .fa 5 5 (.t 1)⟩,
 ⟨(some 62), (some (60, false)), false, .ld none (.t 61)⟩,
 ⟨(some 63), (some (60, false)), false, .bin .eql (.t 62) (.k (.d (.int .i64 4)))⟩,
 ⟨(some 64), none, false, .pick (.t 60) (.k (.d (.bool true))) (.t 63)⟩,
 ⟨(some 65), none, false, .bb .eql (.t 56) (.t 64)⟩,
 ⟨(some 2), none, false, .mov (.t 65)⟩])
 .ret)))))
theorem c59 : (Go.Proofs.Try.f59).body.bind (comp prog.P (1, (Go.Proofs.Try.f59).ntmps) lv59) = some m59 := by kernel_rfl
theorem r59 : resOK prog.P (Go.Proofs.Try.f59).results.toList = true := by kernel_rfl

/-- spec.l24Find -/
def lv62 : List (Nat × List Nat) := [(0, [0, 1]), (1, [0, 1, 5]), (2, [0, 1, 5, 9]), (3, [0, 1, 5]), (4, [0, 1, 5, 18]), (5, [4]), (6, [4])]
def m62 : MC :=
  (.seq
 (.reg false [0, 1] [⟨(some 4), none, false, .mov (.k (.d (.int .i64 0)))⟩])
 (.seq
 (.seq
 (.reg false [0, 1, 5] [⟨(some 5), none, false, .mov (.k (.d (.int .i64 0)))⟩])
 (.block 0
 (.loop
 (.seq
 (.seq
 (.reg false [0, 1, 5, 9] [⟨(some 6), none, false, .mov (.t 5)⟩,
 ⟨(some 7), none, false, .mov (.t 0)⟩,
 ⟨(some 8), none, false, .len false (.t 7)⟩,
 ⟨(some 9), none, false, .bin .lss (.t 6) (.t 8)⟩])
 (.cond (.t 9)
 .skip
 (.exit 0)))
 (.seq
 (.block 1
 (.seq
 (.reg false [0, 1, 5, 18] [⟨(some 12), none, false, .mov (.t 0)⟩,
 ⟨(some 13), none, false, .mov (.t 5)⟩,
 ⟨(some 14), none, false, .ia 6 (.t 12) (.t 13)⟩,
 ⟨(some 15), none, false, .fa 0 0 (.t 14)⟩,
 ⟨(some 16), none, false, .ld none (.t 15)⟩,
 ⟨(some 17), none, false, .mov (.t 1)⟩,
 ⟨(some 18), none, false, .bin .eql (.t 16) (.t 17)⟩])
 (.cond (.t 18)
 (.seq
 (.reg false [4] [⟨(some 19), none, false, .mov (.t 5)⟩,
 ⟨(some 4), none, false, .mov (.t 19)⟩])
 .ret)
 .skip)))
 (.reg false [0, 1, 5] [⟨(some 10), none, false, .mov (.t 5)⟩,
 ⟨(some 11), none, false, .bin .add (.t 10) (.k (.d (.int .i64 1)))⟩,
 ⟨(some 5), none, false, .mov (.t 11)⟩]))))))
 (.seq
 (.reg false [4] [⟨(some 4), none, false, .mov (.k (.d (.int .i64 (-1))))⟩])
 .ret)))
theorem c62 : (Go.Proofs.Try.f62).body.bind (comp prog.P (2, (Go.Proofs.Try.f62).ntmps) lv62) = some m62 := by kernel_rfl
theorem r62 : resOK prog.P (Go.Proofs.Try.f62).results.toList = true := by kernel_rfl

/-- spec.l24Good -/
def lv63 : List (Nat × List Nat) := [(0, [0]), (1, [0, 3]), (2, [0, 3, 13]), (3, [0, 3]), (4, [0, 3, 4]), (5, [0, 3, 4, 37]), (6, [2]), (7, [0, 3, 4, 5]), (8, [0, 3, 4, 5, 40]), (9, [0, 3, 4, 5]), (10, [0, 3, 4, 5, 63]), (11, [2]), (12, [2])]
def m63 : MC :=
  (.seq
 (.reg false [0] [⟨(some 2), none, false, .mov (.k (.d (.bool false)))⟩])
 (.seq
 (.seq
 (.reg false [0, 3] [⟨(some 3), none, false, .mov (.k (.d (.int .i64 0)))⟩])
 (.block 0
 (.loop
 (.seq
 (.seq
 (.reg false [0, 3, 13] [⟨(some 6), none, false, .mov (.t 3)⟩,
 ⟨(some 7), none, false, .mov (.t 0)⟩,
 ⟨(some 8), none, false, .len false (.t 7)⟩,
 ⟨(some 9), none, false, .bin .lss (.t 6) (.t 8)⟩,
 ⟨(some 10), none, false, .mov (.t 9)⟩,
 ⟨(some 11), (some (10, true)), false, .mov (.t 3)⟩,
 ⟨(some 12), (some (10, true)), false, .bin .leq (.t 11) (.k (.d (.int .i64 10)))⟩,
 ⟨(some 13), none, false, .pick (.t 10) (.t 12) (.k (.d (.bool false)))⟩])
 (.cond (.t 13)
 .skip
 (.exit 0)))
 (.seq
 (.block 1
 (.seq
 (.reg false [0, 3, 4] [⟨(some 16), none, false, .mov (.t 0)⟩,
 ⟨(some 17), none, false, .mov (.t 3)⟩,
 ⟨(some 18), none, false, .ia 6 (.t 16) (.t 17)⟩,
 ⟨(some 19), none, false, .ld (some 6) (.t 18)⟩,
 ⟨(some 4), none, true, .alloc (.st (.cons (.int .i64 0) (.cons (.int .i64 0) (.cons (.int .i64 0) (.cons (.sl true 1 .nil) (.cons (.sl true 1 .nil) (.cons (.int .i64 0) .nil)))))))⟩,
 ⟨none, none, true, .st 6 (.t 4) (.t 19)⟩])
 (.seq
 (.seq
 (.reg true [0, 3, 4, 37] [⟨(some 20), none, false, .ld (some 6) (.t 4)⟩,
 ⟨(some 21), none, false, .callP 116 [(.t 20)]⟩,
 ⟨(some 22), none, false, .un .not (.t 21)⟩,
 ⟨(some 23), none, false, .mov (.t 22)⟩,
 ⟨(some 24), (some (23, false)), false, .mov (.t 3)⟩,
 ⟨(some 25), (some (23, false)), false, .bin .gtr (.t 24) (.k (.d (.int .i64 0)))⟩,
 ⟨(some 26), (some (23, false)), false, .mov (.t 25)⟩,
 ⟨(some 27), (some (26, true)), false, .mov (.t 0)⟩,
 ⟨(some 28), (some (26, true)), false, .mov (.t 3)⟩,
 ⟨(some 29), (some (26, true)), false, .bin .sub (.t 28) (.k (.d (.int .i64 1)))⟩,
 ⟨(some 30), (some (26, true)), false, .ia 6 (.t 27) (.t 29)⟩,
 ⟨(some 31), (some (26, true)), false, .fa 0 0 (.t 30)⟩,
 ⟨(some 32), (some (26, true)), false, .ld none (.t 31)⟩,
 ⟨(some 33), (some (26, true)), false, .fa 0 0 (.t 4)⟩,
 ⟨(some 34), (some (26, true)), false, .ld none (.t 33)⟩,
 ⟨(some 35), (some (26, true)), false, .bin .geq (.t 32) (.t 34)⟩,
 ⟨(some 36), (some (23, false)), false, .pick (.t 26) (.t 35) (.k (.d (.bool false)))⟩,
 ⟨(some 37), none, false, .pick (.t 23) (.k (.d (.bool true))) (.t 36)⟩])
 (.cond (.t 37)
 (.seq
 (.reg false [2] [⟨(some 2), none, false, .mov (.k (.d (.bool false)))⟩])
 .ret)
 .skip))
 (.seq
 (.reg false [0, 3, 4, 5] [⟨(some 5), none, false, .mov (.k (.d (.int .i64 0)))⟩])
 (.block 2
 (.loop
 (.seq
 (.seq
 (.reg false [0, 3, 4, 5, 40] [⟨(some 38), none, false, .mov (.t 5)⟩,
 ⟨(some 39), none, false, .mov (.t 3)⟩,
 ⟨(some 40), none, false, .bin .lss (.t 38) (.t 39)⟩])
 (.cond (.t 40)
 .skip
 (.exit 2)))
 (.seq
 (.block 3
 (.seq
 (.reg true [0, 3, 4, 5, 63] [⟨(some 43), none, false, .mov (.t 0)⟩,
 ⟨(some 44), none, false, .mov (.t 5)⟩,
 ⟨(some 45), none, false, .ia 6 (.t 43) (.t 44)⟩,
 ⟨(some 46), none, false, .fa 1 1 (.t 45)⟩,
 ⟨(some 47), none, false, .ld none (.t 46)⟩,
 ⟨(some 48), none, false, .fa 1 1 (.t 4)⟩,
 ⟨(some 49), none, false, .ld none (.t 48)⟩,
 ⟨(some 50), none, false, .bin .eql (.t 47) (.t 49)⟩,
 ⟨(some 51), none, false, .mov (.t 50)⟩,
 ⟨(some 52), (some (51, true)), false, .mov (.t 0)⟩,
 ⟨(some 53), (some (51, true)), false, .mov (.t 5)⟩,
 ⟨(some 54), (some (51, true)), false, .ia 6 (.t 52) (.t 53)⟩,
 ⟨(some 55), (some (51, true)), false, .fa 5 5 (.t 54)⟩,
 ⟨(some 56), (some (51, true)), false, .ld none (.t 55)⟩,
 ⟨(some 57), (some (51, true)), false, .bin .leq (.t 56) (.k (.d (.int .i64 1)))⟩,
 ⟨(some 58), none, false, .pick (.t 51) (.t 57) (.k (.d (.bool false)))⟩,
 ⟨(some 59), none, false, .mov (.t 58)⟩,
 ⟨(some 60), (some (59, true)), false, .fa 5 5 (.t 4)⟩,
 ⟨(some 61), (some (59, true)), false, .ld none (.t 60)⟩,
 ⟨(some 62), (some (59, true)), false, .bin .leq (.t 61) (.k (.d (.int .i64 1)))⟩,
 ⟨(some 63), none, false, .pick (.t 59) (.t 62) (.k (.d (.bool false)))⟩])
 (.cond (.t 63)
 (.seq
 (.reg false [2] [⟨(some 2), none, false, .mov (.k (.d (.bool false)))⟩])
 .ret)
 .skip)))
 (.reg false [0, 3, 4, 5] [⟨(some 41), none, false, .mov (.t 5)⟩,
 ⟨(some 42), none, false, .bin .add (.t 41) (.k (.d (.int .i64 1)))⟩,
 ⟨(some 5), none, false, .mov (.t 42)⟩])))))))))
 (.reg false [0, 3] [⟨(some 14), none, false, .mov (.t 3)⟩,
 ⟨(some 15), none, false, .bin .add (.t 14) (.k (.d (.int .i64 1)))⟩,
 ⟨(some 3), none, false, .mov (.t 15)⟩]))))))
 (.seq
 (.reg false [2] [⟨(some 64), none, false, .mov (.t 0)⟩,
 ⟨(some 65), none, false, .len false (.t 64)⟩,
 ⟨(some 66), none, false, .bin .leq (.t 65) (.k (.d (.int .i64 10)))⟩,
 ⟨(some 2), none, false, .mov (.t 66)⟩])
 .ret)))
theorem c63 : (Go.Proofs.Try.f63).body.bind (comp prog.P (1, (Go.Proofs.Try.f63).ntmps) lv63) = some m63 := by kernel_rfl
theorem r63 : resOK prog.P (Go.Proofs.Try.f63).results.toList = true := by kernel_rfl

/-- spec.l1Has -/
def lv64 : List (Nat × List Nat) := [(0, [0, 1]), (1, [0, 1, 5]), (2, [0, 1, 5, 9]), (3, [0, 1, 5]), (4, [0, 1, 5, 17]), (5, [4]), (6, [4])]
def m64 : MC :=
  (.seq
 (.reg false [0, 1] [⟨(some 4), none, false, .mov (.k (.d (.bool false)))⟩])
 (.seq
 (.seq
 (.reg false [0, 1, 5] [⟨(some 5), none, false, .mov (.k (.d (.int .i64 0)))⟩])
 (.block 0
 (.loop
 (.seq
 (.seq
 (.reg false [0, 1, 5, 9] [⟨(some 6), none, false, .mov (.t 5)⟩,
 ⟨(some 7), none, false, .mov (.t 0)⟩,
 ⟨(some 8), none, false, .len false (.t 7)⟩,
 ⟨(some 9), none, false, .bin .lss (.t 6) (.t 8)⟩])
 (.cond (.t 9)
 .skip
 (.exit 0)))
 (.seq
 (.block 1
 (.seq
 (.reg false [0, 1, 5, 17] [⟨(some 12), none, false, .mov (.t 0)⟩,
 ⟨(some 13), none, false, .mov (.t 5)⟩,
 ⟨(some 14), none, false, .ia 1 (.t 12) (.t 13)⟩,
 ⟨(some 15), none, false, .ld none (.t 14)⟩,
 ⟨(some 16), none, false, .mov (.t 1)⟩,
 ⟨(some 17), none, false, .bin .eql (.t 15) (.t 16)⟩])
 (.cond (.t 17)
 (.seq
 (.reg false [4] [⟨(some 4), none, false, .mov (.k (.d (.bool true)))⟩])
 .ret)
 .skip)))
 (.reg false [0, 1, 5] [⟨(some 10), none, false, .mov (.t 5)⟩,
 ⟨(some 11), none, false, .bin .add (.t 10) (.k (.d (.int .i64 1)))⟩,
 ⟨(some 5), none, false, .mov (.t 11)⟩]))))))
 (.seq
 (.reg false [4] [⟨(some 4), none, false, .mov (.k (.d (.bool false)))⟩])
 .ret)))
theorem c64 : (Go.Proofs.Try.f64).body.bind (comp prog.P (2, (Go.Proofs.Try.f64).ntmps) lv64) = some m64 := by kernel_rfl
theorem r64 : resOK prog.P (Go.Proofs.Try.f64).results.toList = true := by kernel_rfl

/-- impl.appealAt -/
def lv66 : List (Nat × List Nat) := [(0, [0, 3]), (1, [4])]
def m66 : MC :=
  (.seq
 (.reg false [0, 3] [⟨(some 3), none, true, .box (.t 1)⟩,
 ⟨(some 4), none, false, .mov (.k (.d (.int .i64 0)))⟩])
 (.seq
 (.reg false [4] [⟨(some 5), none, false, .mov (.t 0)⟩,
 ⟨(some 6), none, false, .clos 120 [(.t 3)]⟩,
 ⟨(some 7), none, true, .call 119 [(.t 5), (.t 6)]⟩,
 ⟨(some 4), none, false, .mov (.t 7)⟩])
 .ret))
theorem c66 : (Go.Proofs.Try.f66).body.bind (comp prog.P (2, (Go.Proofs.Try.f66).ntmps) lv66) = some m66 := by kernel_rfl
theorem r66 : resOK prog.P (Go.Proofs.Try.f66).results.toList = true := by kernel_rfl

/-- slices.DeleteFunc[[]int,int] -/
def lv67 : List (Nat × List Nat) := [(0, [0, 1]), (1, [0, 1, 5]), (2, [0, 1, 5, 12]), (3, [0, 4]), (4, [0, 1, 5, 6]), (5, [0, 1, 5, 6, 19]), (6, [0, 1, 5, 6]), (7, [0, 1, 5, 6, 7]), (8, [0, 1, 5, 6, 7, 29]), (9, [0, 1, 5, 6]), (10, [0, 1, 5, 6]), (11, [0, 5]), (12, [0, 4])]
def m67 : MC :=
  (.seq
 (.reg false [0, 1] [⟨(some 4), none, false, .mov (.k .nil)⟩])
 (.seq
 (.reg false [0, 1, 5] [⟨(some 8), none, false, .mov (.t 0)⟩,
 ⟨(some 9), none, false, .mov (.t 1)⟩,
 ⟨(some 10), none, true, .call 121 [(.t 8), (.t 9)]⟩,
 ⟨(some 5), none, false, .mov (.t 10)⟩])
 (.seq
 (.seq
 (.reg false [0, 1, 5, 12] [⟨(some 11), none, false, .mov (.t 5)⟩,
 ⟨(some 12), none, false, .bin .eql (.t 11) (.k (.d (.int .i64 (-1))))⟩])
 (.cond (.t 12)
 (.seq
 (.reg false [0, 4] [⟨(some 13), none, false, .mov (.t 0)⟩,
 ⟨(some 4), none, false, .mov (.t 13)⟩])
 .ret)
 .skip))
 (.seq
 (.seq
 (.reg false [0, 1, 5, 6] [⟨(some 14), none, false, .mov (.t 5)⟩,
 ⟨(some 15), none, false, .bin .add (.t 14) (.k (.d (.int .i64 1)))⟩,
 ⟨(some 6), none, false, .mov (.t 15)⟩])
 (.block 0
 (.loop
 (.seq
 (.seq
 (.reg false [0, 1, 5, 6, 19] [⟨(some 16), none, false, .mov (.t 6)⟩,
 ⟨(some 17), none, false, .mov (.t 0)⟩,
 ⟨(some 18), none, false, .len false (.t 17)⟩,
 ⟨(some 19), none, false, .bin .lss (.t 16) (.t 18)⟩])
 (.cond (.t 19)
 .skip
 (.exit 0)))
 (.seq
 (.block 1
 (.seq
 (.reg false [0, 1, 5, 6, 7] [⟨(some 22), none, false, .mov (.t 0)⟩,
 ⟨(some 23), none, false, .mov (.t 6)⟩,
 ⟨(some 24), none, false, .ia 1 (.t 22) (.t 23)⟩,
 ⟨(some 25), none, false, .ld none (.t 24)⟩,
 ⟨(some 7), none, false, .mov (.t 25)⟩])
 (.seq
 (.reg false [0, 1, 5, 6, 7, 29] [⟨(some 26), none, false, .mov (.t 1)⟩,
 ⟨(some 27), none, false, .mov (.t 7)⟩,
 ⟨(some 28), none, true, .callW (.t 26) [(.t 27)]⟩,
 ⟨(some 29), none, false, .un .not (.t 28)⟩])
 (.cond (.t 29)
 (.seq
 (.reg false [0, 1, 5, 6] [⟨(some 30), none, false, .mov (.t 0)⟩,
 ⟨(some 31), none, false, .mov (.t 5)⟩,
 ⟨(some 32), none, false, .mov (.t 7)⟩,
 ⟨(some 33), none, false, .ia 1 (.t 30) (.t 31)⟩,
 ⟨none, none, true, .st 1 (.t 33) (.t 32)⟩])
 (.reg false [0, 1, 5, 6] [⟨(some 34), none, false, .mov (.t 5)⟩,
 ⟨(some 35), none, false, .bin .add (.t 34) (.k (.d (.int .i64 1)))⟩,
 ⟨(some 5), none, false, .mov (.t 35)⟩]))
 .skip))))
 (.reg false [0, 1, 5, 6] [⟨(some 20), none, false, .mov (.t 6)⟩,
 ⟨(some 21), none, false, .bin .add (.t 20) (.k (.d (.int .i64 1)))⟩,
 ⟨(some 6), none, false, .mov (.t 21)⟩]))))))
 (.seq
 (.reg false [0, 5] [⟨(some 36), none, false, .mov (.t 0)⟩,
 ⟨(some 37), none, false, .mov (.t 5)⟩,
 ⟨(some 38), none, false, .slx 1 (.t 36) (some (.t 37)) none⟩,
 ⟨none, none, true, .clr 1 (.int .i64 0) (.t 38)⟩])
 (.seq
 (.reg false [0, 4] [⟨(some 39), none, false, .mov (.t 0)⟩,
 ⟨(some 40), none, false, .mov (.t 5)⟩,
 ⟨(some 41), none, true, .cut 1 (.t 39) (.t 40)⟩,
 ⟨(some 4), none, false, .mov (.t 41)⟩])
 .ret))))))
theorem c67 : (Go.Proofs.Try.f67).body.bind (comp prog.P (2, (Go.Proofs.Try.f67).ntmps) lv67) = some m67 := by kernel_rfl
theorem r67 : resOK prog.P (Go.Proofs.Try.f67).results.toList = true := by kernel_rfl

/-- slices.Clone[[]int,int] -/
def lv68 : List (Nat × List Nat) := [(0, [0]), (1, [0, 4]), (2, [2]), (3, [2])]
def m68 : MC :=
  (.seq
 (.reg false [0] [⟨(some 2), none, false, .mov (.k .nil)⟩])
 (.seq
 (.seq
 (.reg false [0, 4] [⟨(some 3), none, false, .mov (.t 0)⟩,
 ⟨(some 4), none, true, .snil false (.t 3)⟩])
 (.cond (.t 4)
 (.seq
 (.reg false [2] [⟨(some 2), none, false, .mov (.k .nil)⟩])
 .ret)
 .skip))
 (.seq
 (.reg false [2] [⟨(some 5), none, true, .bs 1 0 (.int .i64 0) []⟩,
 ⟨(some 6), none, false, .mov (.t 0)⟩,
 ⟨(some 7), none, true, .app 1 8 (.t 5) (.t 6)⟩,
 ⟨(some 2), none, false, .mov (.t 7)⟩])
 .ret)))
theorem c68 : (Go.Proofs.Try.f68).body.bind (comp prog.P (1, (Go.Proofs.Try.f68).ntmps) lv68) = some m68 := by kernel_rfl
theorem r68 : resOK prog.P (Go.Proofs.Try.f68).results.toList = true := by kernel_rfl

/-- impl.NotHeard$1 -/
def lv69 : List (Nat × List Nat) := [(0, [0, 1, 2]), (1, [4])]
def m69 : MC :=
  (.seq
 (.reg false [0, 1, 2] [⟨(some 4), none, false, .mov (.k (.d (.bool false)))⟩])
 (.seq
 (.reg false [4] [⟨(some 5), none, false, .ld none (.t 1)⟩,
 ⟨(some 6), none, false, .ld none (.t 2)⟩,
 ⟨(some 7), none, false, .ia 6 (.t 5) (.t 6)⟩,
 ⟨(some 8), none, false, .fa 4 4 (.t 7)⟩,
 ⟨(some 9), none, false, .ld none (.t 8)⟩,
 ⟨(some 10), none, false, .mov (.t 0)⟩,
 ⟨(some 11), none, true, .call 70 [(.t 9), (.t 10)]⟩,
 ⟨(some 4), none, false, .mov (.t 11)⟩])
 .ret))
theorem c69 : (Go.Proofs.Try.f69).body.bind (comp prog.P (3, (Go.Proofs.Try.f69).ntmps) lv69) = some m69 := by kernel_rfl
theorem r69 : resOK prog.P (Go.Proofs.Try.f69).results.toList = true := by kernel_rfl
theorem en69 : enterOK prog.P 69 = true := by kernel_rfl

/-- slices.Contains[[]int,int] -/
def lv70 : List (Nat × List Nat) := [(0, [0, 1]), (1, [4])]
def m70 : MC :=
  (.seq
 (.reg false [0, 1] [⟨(some 4), none, false, .mov (.k (.d (.bool false)))⟩])
 (.seq
 (.reg false [4] [⟨(some 5), none, false, .mov (.t 0)⟩,
 ⟨(some 6), none, false, .mov (.t 1)⟩,
 ⟨(some 7), none, true, .call 75 [(.t 5), (.t 6)]⟩,
 ⟨(some 8), none, false, .bin .geq (.t 7) (.k (.d (.int .i64 0)))⟩,
 ⟨(some 4), none, false, .mov (.t 8)⟩])
 .ret))
theorem c70 : (Go.Proofs.Try.f70).body.bind (comp prog.P (2, (Go.Proofs.Try.f70).ntmps) lv70) = some m70 := by kernel_rfl
theorem r70 : resOK prog.P (Go.Proofs.Try.f70).results.toList = true := by kernel_rfl

/-- slices.Index[[]int,int] -/
def lv75 : List (Nat × List Nat) := [(0, [0, 1]), (1, [0, 1, 7, 8]), (2, [0, 1, 7, 8, 9]), (3, [0, 1, 5, 7, 8]), (4, [0, 1, 5, 7, 8, 16]), (5, [4]), (6, [0, 1, 7, 8]), (7, [4])]
def m75 : MC :=
  (.seq
 (.reg false [0, 1] [⟨(some 4), none, false, .mov (.k (.d (.int .i64 0)))⟩])
 (.seq
 (.seq
 (.reg false [0, 1, 7, 8] [⟨(some 6), none, false, .mov (.t 0)⟩,
 ⟨(some 7), none, false, .len false (.t 6)⟩,
 ⟨(some 8), none, false, .mov (.k (.d (.int .i64 0)))⟩])
 (.block 0
 (.loop
 (.seq
 (.reg false [0, 1, 7, 8, 9] [⟨(some 9), none, false, .bin .lss (.t 8) (.t 7)⟩])
 (.seq
 (.cond (.t 9)
 .skip
 (.exit 0))
 (.seq
 (.block 1
 (.seq
 (.reg false [0, 1, 5, 7, 8] [⟨(some 10), none, false, .mov (.t 8)⟩,
 ⟨(some 5), none, false, .mov (.t 10)⟩])
 (.seq
 (.reg false [0, 1, 5, 7, 8, 16] [⟨(some 11), none, false, .mov (.t 1)⟩,
 ⟨(some 12), none, false, .mov (.t 0)⟩,
 ⟨(some 13), none, false, .mov (.t 5)⟩,
 ⟨(some 14), none, false, .ia 1 (.t 12) (.t 13)⟩,
 ⟨(some 15), none, false, .ld none (.t 14)⟩,
 ⟨(some 16), none, false, .bin .eql (.t 11) (.t 15)⟩])
 (.cond (.t 16)
 (.seq
 (.reg false [4] [⟨(some 17), none, false, .mov (.t 5)⟩,
 ⟨(some 4), none, false, .mov (.t 17)⟩])
 .ret)
 .skip))))
 (.reg false [0, 1, 7, 8] [⟨(some 18), none, false, .bin .add (.t 8) (.k (.d (.int .i64 1)))⟩,
 ⟨(some 8), none, false, .mov (.t 18)⟩])))))))
 (.seq
 (.reg false [4] [⟨(some 4), none, false, .mov (.k (.d (.int .i64 (-1))))⟩])
 .ret)))
theorem c75 : (Go.Proofs.Try.f75).body.bind (comp prog.P (2, (Go.Proofs.Try.f75).ntmps) lv75) = some m75 := by kernel_rfl
theorem r75 : resOK prog.P (Go.Proofs.Try.f75).results.toList = true := by kernel_rfl

/-- impl.reduced -/
def lv82 : List (Nat × List Nat) := [(0, [0, 1]), (1, [0, 1, 6]), (2, [4, 5])]
def m82 : MC :=
  (.seq
 (.reg false [0, 1] [⟨(some 4), none, false, .mov (.k (.d (.int .i64 0)))⟩,
 ⟨(some 5), none, false, .mov (.k (.d (.int .i64 0)))⟩])
 (.seq
 (.reg false [0, 1, 6] [⟨(some 7), none, false, .mov (.t 0)⟩,
 ⟨(some 8), none, false, .mov (.t 1)⟩,
 ⟨(some 9), none, true, .call 127 [(.t 7), (.t 8)]⟩,
 ⟨(some 6), none, false, .mov (.t 9)⟩])
 (.seq
 (.reg true [4, 5] [⟨(some 10), none, false, .mov (.t 0)⟩,
 ⟨(some 11), none, false, .mov (.t 6)⟩,
 ⟨(some 12), none, false, .bin .quo (.t 10) (.t 11)⟩,
 ⟨(some 13), none, false, .mov (.t 1)⟩,
 ⟨(some 14), none, false, .mov (.t 6)⟩,
 ⟨(some 15), none, false, .bin .quo (.t 13) (.t 14)⟩,
 ⟨(some 4), none, false, .mov (.t 12)⟩,
 ⟨(some 5), none, false, .mov (.t 15)⟩])
 .ret)))
theorem c82 : (Go.Proofs.Try.f82).body.bind (comp prog.P (2, (Go.Proofs.Try.f82).ntmps) lv82) = some m82 := by kernel_rfl
theorem r82 : resOK prog.P (Go.Proofs.Try.f82).results.toList = true := by kernel_rfl

/-- spec.l2Reduce -/
def lv83 : List (Nat × List Nat) := [(0, [0, 1]), (1, [0, 1, 6, 7]), (2, [0, 1, 6, 7, 15]), (3, [0, 1, 7, 8]), (4, [0, 1, 6, 8]), (5, [0, 1, 6, 7]), (6, [4, 5])]
def m83 : MC :=
  (.seq
 (.reg false [0, 1] [⟨(some 4), none, false, .mov (.k (.d (.int .i64 0)))⟩,
 ⟨(some 5), none, false, .mov (.k (.d (.int .i64 0)))⟩])
 (.seq
 (.reg false [0, 1, 6, 7] [⟨(some 9), none, false, .mov (.t 0)⟩,
 ⟨(some 10), none, false, .mov (.t 0)⟩,
 ⟨(some 11), none, false, .un .neg (.t 10)⟩,
 ⟨(some 12), none, true, .call 100 [(.t 9), (.t 11)]⟩,
 ⟨(some 13), none, false, .mov (.t 1)⟩,
 ⟨(some 6), none, false, .mov (.t 12)⟩,
 ⟨(some 7), none, false, .mov (.t 13)⟩])
 (.seq
 (.block 0
 (.loop
 (.seq
 (.seq
 (.reg false [0, 1, 6, 7, 15] [⟨(some 14), none, false, .mov (.t 7)⟩,
 ⟨(some 15), none, false, .bin .neq (.t 14) (.k (.d (.int .i64 0)))⟩])
 (.cond (.t 15)
 .skip
 (.exit 0)))
 (.block 1
 (.seq
 (.reg false [0, 1, 7, 8] [⟨(some 16), none, false, .mov (.t 6)⟩,
 ⟨(some 17), none, false, .mov (.t 7)⟩,
 ⟨(some 18), none, false, .bin .rem (.t 16) (.t 17)⟩,
 ⟨(some 8), none, false, .mov (.t 18)⟩])
 (.seq
 (.reg false [0, 1, 6, 8] [⟨(some 19), none, false, .mov (.t 7)⟩,
 ⟨(some 6), none, false, .mov (.t 19)⟩])
 (.reg false [0, 1, 6, 7] [⟨(some 20), none, false, .mov (.t 8)⟩,
 ⟨(some 7), none, false, .mov (.t 20)⟩])))))))
 (.seq
 (.reg true [4, 5] [⟨(some 21), none, false, .mov (.t 0)⟩,
 ⟨(some 22), none, false, .mov (.t 6)⟩,
 ⟨(some 23), none, false, .bin .quo (.t 21) (.t 22)⟩,
 ⟨(some 24), none, false, .mov (.t 1)⟩,
 ⟨(some 25), none, false, .mov (.t 6)⟩,
 ⟨(some 26), none, false, .bin .quo (.t 24) (.t 25)⟩,
 ⟨(some 4), none, false, .mov (.t 23)⟩,
 ⟨(some 5), none, false, .mov (.t 26)⟩])
 .ret))))
theorem c83 : (Go.Proofs.Try.f83).body.bind (comp prog.P (2, (Go.Proofs.Try.f83).ntmps) lv83) = some m83 := by kernel_rfl
theorem r83 : resOK prog.P (Go.Proofs.Try.f83).results.toList = true := by kernel_rfl

/-- spec.l1Cur).appeals -/
def lv84 : List (Nat × List Nat) := [(0, [0]), (1, [0, 3]), (2, [0, 3, 4]), (3, [0, 3, 4, 5]), (4, [0, 3, 4, 5, 12]), (5, [0, 3, 4, 5]), (6, [0, 3, 4, 5]), (7, [0, 3, 4, 5, 6]), (8, [0, 3, 4, 5, 6, 33]), (9, [0, 3, 4, 5]), (10, [0, 3, 36]), (11, [0, 3]), (12, [0, 3, 7]), (13, [0, 3, 7, 42]), (14, [0, 3, 7]), (15, [0, 3, 7]), (16, [0, 2])]
def m84 : MC :=
  (.seq
 (.reg false [0] [⟨(some 2), none, false, .mov (.k .nil)⟩])
 (.seq
 (.reg false [0, 3] [⟨(some 8), none, true, .bs 6 0 (.st (.cons (.int .i64 0) (.cons (.int .i64 0) (.cons (.int .i64 0) (.cons (.sl true 1 .nil) (.cons (.sl true 1 .nil) (.cons (.int .i64 0) .nil))))))) []⟩,
 ⟨(some 3), none, false, .mov (.t 8)⟩])
 (.seq
 (.reg false [0, 3, 4] [⟨(some 4), none, false, .mov (.k (.d (.int .i64 0)))⟩])
 (.seq
 (.seq
 (.reg false [0, 3, 4, 5] [⟨(some 9), none, false, .mov (.t 0)⟩,
 ⟨(some 10), none, true, .call 86 [(.t 9), (.k (.d (.int .i64 8)))]⟩,
 ⟨(some 5), none, false, .mov (.t 10)⟩])
 (.block 0
 (.loop
 (.seq
 (.seq
 (.reg false [0, 3, 4, 5, 12] [⟨(some 11), none, false, .mov (.t 5)⟩,
 ⟨(some 12), none, false, .bin .gtr (.t 11) (.k (.d (.int .i64 0)))⟩])
 (.cond (.t 12)
 .skip
 (.exit 0)))
 (.seq
 (.block 1
 (.seq
 (.reg false [0, 3, 4, 5] [⟨(some 15), none, false, .mov (.t 4)⟩,
 ⟨(some 16), none, false, .bin .add (.t 15) (.k (.d (.int .i64 1)))⟩,
 ⟨(some 17), none, false, .mov (.t 0)⟩,
 ⟨(some 18), none, true, .call 86 [(.t 17), (.k (.d (.int .i64 3)))]⟩,
 ⟨(some 19), none, false, .bin .add (.t 16) (.t 18)⟩,
 ⟨(some 4), none, false, .mov (.t 19)⟩])
 (.seq
 (.reg false [0, 3, 4, 5, 6] [⟨(some 20), none, true, .bs 6 0 (.st (.cons (.int .i64 0) (.cons (.int .i64 0) (.cons (.int .i64 0) (.cons (.sl true 1 .nil) (.cons (.sl true 1 .nil) (.cons (.int .i64 0) .nil))))))) []⟩,
 ⟨(some 21), none, false, .mov (.t 3)⟩,
 ⟨(some 22), none, true, .app 6 80 (.t 20) (.t 21)⟩,
 ⟨(some 23), none, false, .mov (.t 0)⟩,
 ⟨(some 24), none, false, .mov (.t 4)⟩,
 ⟨(some 25), none, true, .call 110 [(.t 23), (.t 24)]⟩,
 ⟨(some 26), none, true, .bs 6 1 (.st (.cons (.int .i64 0) (.cons (.int .i64 0) (.cons (.int .i64 0) (.cons (.sl true 1 .nil) (.cons (.sl true 1 .nil) (.cons (.int .i64 0) .nil))))))) [(0, (.t 25))]⟩,
 ⟨(some 27), none, true, .app 6 80 (.t 22) (.t 26)⟩,
 ⟨(some 6), none, false, .mov (.t 27)⟩])
 (.seq
 (.reg false [0, 3, 4, 5, 6, 33] [⟨(some 28), none, false, .mov (.t 6)⟩,
 ⟨(some 29), none, true, .call 63 [(.t 28)]⟩,
 ⟨(some 30), none, false, .mov (.t 29)⟩,
 ⟨(some 31), (some (30, false)), false, .mov (.t 0)⟩,
 ⟨(some 32), (some (30, false)), true, .call 102 [(.t 31), (.k (.d (.int .i64 40)))]⟩,
 ⟨(some 33), none, false, .pick (.t 30) (.k (.d (.bool true))) (.t 32)⟩])
 (.cond (.t 33)
 (.reg false [0, 3, 4, 5] [⟨(some 34), none, false, .mov (.t 6)⟩,
 ⟨(some 3), none, false, .mov (.t 34)⟩])
 .skip)))))
 (.reg false [0, 3, 4, 5] [⟨(some 13), none, false, .mov (.t 5)⟩,
 ⟨(some 14), none, false, .bin .sub (.t 13) (.k (.d (.int .i64 1)))⟩,
 ⟨(some 5), none, false, .mov (.t 14)⟩]))))))
 (.seq
 (.seq
 (.reg false [0, 3, 36] [⟨(some 35), none, false, .mov (.t 0)⟩,
 ⟨(some 36), none, true, .call 102 [(.t 35), (.k (.d (.int .i64 24)))]⟩])
 (.cond (.t 36)
 (.seq
 (.reg false [0, 3] [⟨(some 37), none, true, .bs 6 0 (.st (.cons (.int .i64 0) (.cons (.int .i64 0) (.cons (.int .i64 0) (.cons (.sl true 1 .nil) (.cons (.sl true 1 .nil) (.cons (.int .i64 0) .nil))))))) []⟩,
 ⟨(some 3), none, false, .mov (.t 37)⟩])
 (.seq
 (.reg false [0, 3, 7] [⟨(some 7), none, false, .mov (.k (.d (.int .i64 0)))⟩])
 (.block 2
 (.loop
 (.seq
 (.seq
 (.reg false [0, 3, 7, 42] [⟨(some 38), none, false, .mov (.t 7)⟩,
 ⟨(some 39), none, false, .mov (.t 0)⟩,
 ⟨(some 40), none, true, .call 86 [(.t 39), (.k (.d (.int .i64 2)))]⟩,
 ⟨(some 41), none, false, .bin .add (.k (.d (.int .i64 10))) (.t 40)⟩,
 ⟨(some 42), none, false, .bin .lss (.t 38) (.t 41)⟩])
 (.cond (.t 42)
 .skip
 (.exit 2)))
 (.seq
 (.block 3
 (.reg false [0, 3, 7] [⟨(some 45), none, false, .mov (.t 3)⟩,
 ⟨(some 46), none, false, .mov (.t 7)⟩,
 ⟨(some 47), none, false, .bin .add (.t 46) (.k (.d (.int .i64 1)))⟩,
 ⟨(some 48), none, false, .mov (.t 7)⟩,
 ⟨(some 49), none, false, .bin .add (.t 48) (.k (.d (.int .i64 1)))⟩,
 ⟨(some 50), none, true, .bld (.cons (.int .i64 0) (.cons (.int .i64 0) (.cons (.int .i64 0) (.cons (.sl true 1 .nil) (.cons (.sl true 1 .nil) (.cons (.int .i64 0) .nil)))))) [(0, (.t 47)), (1, (.t 49)), (5, (.k (.d (.int .i64 1))))]⟩,
 ⟨(some 51), none, true, .bs 6 1 (.st (.cons (.int .i64 0) (.cons (.int .i64 0) (.cons (.int .i64 0) (.cons (.sl true 1 .nil) (.cons (.sl true 1 .nil) (.cons (.int .i64 0) .nil))))))) [(0, (.t 50))]⟩,
 ⟨(some 52), none, true, .app 6 80 (.t 45) (.t 51)⟩,
 ⟨(some 3), none, false, .mov (.t 52)⟩]))
 (.reg false [0, 3, 7] [⟨(some 43), none, false, .mov (.t 7)⟩,
 ⟨(some 44), none, false, .bin .add (.t 43) (.k (.d (.int .i64 1)))⟩,
 ⟨(some 7), none, false, .mov (.t 44)⟩])))))))
 .skip))
 (.seq
 (.reg false [0, 2] [⟨(some 53), none, false, .mov (.t 3)⟩,
 ⟨(some 2), none, false, .mov (.t 53)⟩])
 .ret))))))
theorem c84 : (Go.Proofs.Try.f84).body.bind (comp prog.P (1, (Go.Proofs.Try.f84).ntmps) lv84) = some m84 := by kernel_rfl
theorem r84 : resOK prog.P (Go.Proofs.Try.f84).results.toList = true := by kernel_rfl

/-- spec.l1Cur).among -/
def lv85 : List (Nat × List Nat) := [(0, [0, 1]), (1, [0, 4])]
def m85 : MC :=
  (.seq
 (.reg false [0, 1] [⟨(some 4), none, false, .mov (.k (.d (.int .i64 0)))⟩])
 (.seq
 (.reg false [0, 4] [⟨(some 5), none, false, .mov (.t 1)⟩,
 ⟨(some 6), none, false, .mov (.t 0)⟩,
 ⟨(some 7), none, false, .mov (.t 1)⟩,
 ⟨(some 8), none, false, .len false (.t 7)⟩,
 ⟨(some 9), none, true, .call 86 [(.t 6), (.t 8)]⟩,
 ⟨(some 10), none, false, .ia 1 (.t 5) (.t 9)⟩,
 ⟨(some 11), none, false, .ld none (.t 10)⟩,
 ⟨(some 4), none, false, .mov (.t 11)⟩])
 .ret))
theorem c85 : (Go.Proofs.Try.f85).body.bind (comp prog.P (2, (Go.Proofs.Try.f85).ntmps) lv85) = some m85 := by kernel_rfl
theorem r85 : resOK prog.P (Go.Proofs.Try.f85).results.toList = true := by kernel_rfl

/-- spec.l1Cur).pick -/
def lv86 : List (Nat × List Nat) := [(0, [0, 1]), (1, [0, 1, 7]), (2, [0, 4]), (3, [0, 1, 5]), (4, [0, 1, 5, 11]), (5, [0, 1, 5]), (6, [0, 4])]
def m86 : MC :=
  (.seq
 (.reg false [0, 1] [⟨(some 4), none, false, .mov (.k (.d (.int .i64 0)))⟩])
 (.seq
 (.seq
 (.reg false [0, 1, 7] [⟨(some 6), none, false, .mov (.t 1)⟩,
 ⟨(some 7), none, false, .bin .leq (.t 6) (.k (.d (.int .i64 1)))⟩])
 (.cond (.t 7)
 (.seq
 (.reg false [0, 4] [⟨(some 4), none, false, .mov (.k (.d (.int .i64 0)))⟩])
 .ret)
 .skip))
 (.seq
 (.reg false [0, 1, 5] [⟨(some 8), none, false, .mov (.t 0)⟩,
 ⟨(some 9), none, true, .call 128 [(.t 8)]⟩,
 ⟨(some 5), none, false, .mov (.t 9)⟩])
 (.seq
 (.seq
 (.reg false [0, 1, 5, 11] [⟨(some 10), none, false, .mov (.t 1)⟩,
 ⟨(some 11), none, false, .bin .gtr (.t 10) (.k (.d (.int .i64 200)))⟩])
 (.cond (.t 11)
 (.reg false [0, 1, 5] [⟨(some 12), none, false, .mov (.t 5)⟩,
 ⟨(some 13), none, false, .bin .mul (.t 12) (.k (.d (.int .i64 256)))⟩,
 ⟨(some 14), none, false, .mov (.t 0)⟩,
 ⟨(some 15), none, true, .call 128 [(.t 14)]⟩,
 ⟨(some 16), none, false, .bin .add (.t 13) (.t 15)⟩,
 ⟨(some 5), none, false, .mov (.t 16)⟩])
 .skip))
 (.seq
 (.reg false [0, 4] [⟨(some 17), none, false, .mov (.t 5)⟩,
 ⟨(some 18), none, false, .mov (.t 1)⟩,
 ⟨(some 19), none, false, .bin .rem (.t 17) (.t 18)⟩,
 ⟨(some 4), none, false, .mov (.t 19)⟩])
 .ret)))))
theorem c86 : (Go.Proofs.Try.f86).body.bind (comp prog.P (2, (Go.Proofs.Try.f86).ntmps) lv86) = some m86 := by kernel_rfl
theorem r86 : resOK prog.P (Go.Proofs.Try.f86).results.toList = true := by kernel_rfl

/-- impl.isParty -/
def lv87 : List (Nat × List Nat) := [(0, [0]), (1, [2])]
def m87 : MC :=
  (.seq
 (.reg false [0] [⟨(some 2), none, false, .mov (.k (.d (.bool false)))⟩])
 (.seq
 (.reg false [2] [⟨(some 3), none, false, .mov (.t 0)⟩,
 ⟨(some 4), none, true, .call 111 [(.t 3), (.k (.d (.int .i64 1))), (.k (.d (.int .i64 50)))]⟩,
 ⟨(some 2), none, false, .mov (.t 4)⟩])
 .ret))
theorem c87 : (Go.Proofs.Try.f87).body.bind (comp prog.P (1, (Go.Proofs.Try.f87).ntmps) lv87) = some m87 := by kernel_rfl
theorem r87 : resOK prog.P (Go.Proofs.Try.f87).results.toList = true := by kernel_rfl

/-- impl.Appeal).waits -/
def lv88 : List (Nat × List Nat) := [(0, [1, 2]), (1, [4])]
def m88 : MC :=
  (.seq
 (.reg false [1, 2] [⟨(some 2), none, true, .box (.t 0)⟩,
 ⟨(some 4), none, false, .mov (.k (.d (.bool false)))⟩])
 (.seq
 (.reg false [4] [⟨(some 5), none, false, .fa 5 5 (.t 2)⟩,
 ⟨(some 6), none, false, .ld none (.t 5)⟩,
 ⟨(some 7), none, false, .bin .eql (.t 6) (.k (.d (.int .i64 0)))⟩,
 ⟨(some 8), none, false, .mov (.t 7)⟩,
 ⟨(some 9), (some (8, true)), false, .fa 3 3 (.t 2)⟩,
 ⟨(some 10), (some (8, true)), false, .ld none (.t 9)⟩,
 ⟨(some 11), (some (8, true)), false, .mov (.t 1)⟩,
 ⟨(some 12), (some (8, true)), true, .call 70 [(.t 10), (.t 11)]⟩,
 ⟨(some 13), none, false, .pick (.t 8) (.t 12) (.k (.d (.bool false)))⟩,
 ⟨(some 14), none, false, .mov (.t 13)⟩,
 ⟨(some 15), (some (14, true)), false, .fa 4 4 (.t 2)⟩,
 ⟨(some 16), (some (14, true)), false, .ld none (.t 15)⟩,
 ⟨(some 17), (some (14, true)), false, .mov (.t 1)⟩,
 ⟨(some 18), (some (14, true)), true, .call 70 [(.t 16), (.t 17)]⟩,
 ⟨(some 19), (some (14, true)), false, .un .not (.t 18)⟩,
 ⟨(some 20), none, false, .pick (.t 14) (.t 19) (.k (.d (.bool false)))⟩,
 ⟨(some 4), none, false, .mov (.t 20)⟩])
 .ret))
theorem c88 : (Go.Proofs.Try.f88).body.bind (comp prog.P (2, (Go.Proofs.Try.f88).ntmps) lv88) = some m88 := by kernel_rfl
theorem r88 : resOK prog.P (Go.Proofs.Try.f88).results.toList = true := by kernel_rfl

/-- slices.SortStableFunc[[]impl.Appeal,impl.Appeal] -/
def lv89 : List (Nat × List Nat) := [(0, [0])]
def m89 : MC :=
  (.reg false [0] [⟨(some 4), none, false, .mov (.t 0)⟩,
 ⟨(some 5), none, false, .mov (.t 0)⟩,
 ⟨(some 6), none, false, .len false (.t 5)⟩,
 ⟨(some 7), none, false, .mov (.t 1)⟩,
 ⟨(some 8), none, true, .call 129 [(.t 4), (.t 6), (.t 7)]⟩])
theorem c89 : (Go.Proofs.Try.f89).body.bind (comp prog.P (2, (Go.Proofs.Try.f89).ntmps) lv89) = some m89 := by kernel_rfl
theorem r89 : resOK prog.P (Go.Proofs.Try.f89).results.toList = true := by kernel_rfl

/-- impl.WaitFor$1 -/
def lv90 : List (Nat × List Nat) := [(0, [2, 3]), (1, [4])]
def m90 : MC :=
  (.seq
 (.reg false [2, 3] [⟨(some 2), none, true, .box (.t 0)⟩,
 ⟨(some 3), none, true, .box (.t 1)⟩,
 ⟨(some 4), none, false, .mov (.k (.d (.int .i64 0)))⟩])
 (.seq
 (.reg false [4] [⟨(some 5), none, false, .fa 2 2 (.t 2)⟩,
 ⟨(some 6), none, false, .ld none (.t 5)⟩,
 ⟨(some 7), none, false, .fa 2 2 (.t 3)⟩,
 ⟨(some 8), none, false, .ld none (.t 7)⟩,
 ⟨(some 9), none, true, .call 91 [(.t 6), (.t 8)]⟩,
 ⟨(some 4), none, false, .mov (.t 9)⟩])
 .ret))
theorem c90 : (Go.Proofs.Try.f90).body.bind (comp prog.P (2, (Go.Proofs.Try.f90).ntmps) lv90) = some m90 := by kernel_rfl
theorem r90 : resOK prog.P (Go.Proofs.Try.f90).results.toList = true := by kernel_rfl
theorem en90 : enterOK prog.P 90 = true := by kernel_rfl

end Go.Pe.Try
