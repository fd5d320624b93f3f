/-
The compact code of the functions that the law reaches, printed by gen.py, each with the proof that the machine's code is compiled to it.
-/
import Derived.Test.YtbkjloohaahmdaaMc1
import Derived.Test.YtbkjloohaahmdaaProg
import Derived.KernelRfl
set_option maxRecDepth 100000
namespace Go.Pe.Try
open Go.Pe

/-- slices.Index[[]int,int] -/
def lv75 : List (Nat × List Nat) := [(0, [0, 1]), (1, [0, 1, 7, 8]), (2, [0, 1, 7, 8, 9]), (3, [0, 1, 5, 7, 8]), (4, [0, 1, 5, 7, 8, 16]), (5, [4]), (6, [0, 1, 7, 8]), (7, [4])]
def m75 : MC :=
  (.seq
 (.reg false [0, 1] [⟨(some 4), none, false, .mov (.k (.d (.int .i64 0)))⟩])
 (.seq
 (.seq
 (.reg false [0, 1, 7, 8] [⟨(some 6), none, false, .mov (.t 0)⟩,
 ⟨(some 7), none, false, .len false (.t 6)⟩,
 ⟨(some 8), none, false, .mov (.k (.d (.int .i64 0)))⟩])
 (.block 0
 (.loop
 (.seq
 (.reg false [0, 1, 7, 8, 9] [⟨(some 9), none, false, .bin .lss (.t 8) (.t 7)⟩])
 (.seq
 (.cond (.t 9)
 .skip
 (.exit 0))
 (.seq
 (.block 1
 (.seq
 (.reg false [0, 1, 5, 7, 8] [⟨(some 10), none, false, .mov (.t 8)⟩,
 ⟨(some 5), none, false, .mov (.t 10)⟩])
 (.seq
 (.reg false [0, 1, 5, 7, 8, 16] [⟨(some 11), none, false, .mov (.t 1)⟩,
 ⟨(some 12), none, false, .mov (.t 0)⟩,
 ⟨(some 13), none, false, .mov (.t 5)⟩,
 ⟨(some 14), none, false, .ia 1 (.t 12) (.t 13)⟩,
 ⟨(some 15), none, false, .ld none (.t 14)⟩,
 ⟨(some 16), none, false, .bin .eql (.t 11) (.t 15)⟩])
 (.cond (.t 16)
 (.seq
 (.reg false [4] [⟨(some 17), none, false, .mov (.t 5)⟩,
 ⟨(some 4), none, false, .mov (.t 17)⟩])
 .ret)
 .skip))))
 (.reg false [0, 1, 7, 8] [⟨(some 18), none, false, .bin .add (.t 8) (.k (.d (.int .i64 1)))⟩,
 ⟨(some 8), none, false, .mov (.t 18)⟩])))))))
 (.seq
 (.reg false [4] [⟨(some 4), none, false, .mov (.k (.d (.int .i64 (-1))))⟩])
 .ret)))
theorem c75 : (Go.Proofs.Try.f75).body.bind (comp prog.P (2, (Go.Proofs.Try.f75).ntmps) lv75) = some m75 := by kernel_rfl
theorem r75 : resOK prog.P (Go.Proofs.Try.f75).results.toList = true := by kernel_rfl

/-- spec.l26Good -/
def lv76 : List (Nat × List Nat) := [(0, [0, 1]), (1, [0, 1, 5]), (2, [0, 1, 5, 6]), (3, [0, 1, 5, 6, 11]), (4, [0, 1, 5, 6]), (5, [0, 1, 5, 6, 37]), (6, [4]), (7, [0, 1, 5, 6]), (8, [0, 1, 5, 6, 52]), (9, [4]), (10, [4])]
def m76 : MC :=
  (.seq
 (.reg false [0, 1] [⟨(some 4), none, false, .mov (.k (.d (.bool false)))⟩])
 (.seq
 (.reg false [0, 1, 5] [⟨(some 7), none, false, .mov (.t 0)⟩,
 ⟨(some 5), none, false, .mov (.t 7)⟩])
 (.seq
 (.seq
 (.reg false [0, 1, 5, 6] [⟨(some 6), none, false, .mov (.k (.d (.int .i64 0)))⟩])
 (.block 0
 (.loop
 (.seq
 (.seq
 (.reg false [0, 1, 5, 6, 11] [⟨(some 8), none, false, .mov (.t 6)⟩,
 ⟨(some 9), none, false, .mov (.t 1)⟩,
 ⟨(some 10), none, false, .len false (.t 9)⟩,
 ⟨(some 11), none, false, .bin .lss (.t 8) (.t 10)⟩])
 (.cond (.t 11)
 .skip
 (.exit 0)))
 (.seq
 (.block 1
 (.seq
 (.seq
 (.reg true [0, 1, 5, 6, 37] [⟨(some 14), none, false, .mov (.t 1)⟩,
 ⟨(some 15), none, false, .mov (.t 6)⟩,
 ⟨(some 16), none, false, .ia 5 (.t 14) (.t 15)⟩,
 ⟨(some 17), none, false, .ld (some 5) (.t 16)⟩,
 ⟨(some 18), none, false, .callP 125 [(.t 17)]⟩,
 ⟨(some 19), none, false, .un .not (.t 18)⟩,
 ⟨(some 20), none, false, .mov (.t 19)⟩,
 ⟨(some 21), (some (20, false)), false, .mov (.t 6)⟩,
 ⟨(some 22), (some (20, false)), false, .bin .gtr (.t 21) (.k (.d (.int .i64 0)))⟩,
 ⟨(some 23), (some (20, false)), false, .mov (.t 22)⟩,
 ⟨(some 24), (some (23, true)), false, .mov (.t 1)⟩,
 ⟨(some 25), (some (23, true)), false, .mov (.t 6)⟩,
 ⟨(some 26), (some (23, true)), false, .bin .sub (.t 25) (.k (.d (.int .i64 1)))⟩,
 ⟨(some 27), (some (23, true)), false, .ia 5 (.t 24) (.t 26)⟩,
 ⟨(some 28), (some (23, true)), false, .fa 0 0 (.t 27)⟩,
 ⟨(some 29), (some (23, true)), false, .ld none (.t 28)⟩,
 ⟨(some 30), (some (23, true)), false, .mov (.t 1)⟩,
 ⟨(some 31), (some (23, true)), false, .mov (.t 6)⟩,
 ⟨(some 32), (some (23, true)), false, .ia 5 (.t 30) (.t 31)⟩,
 ⟨(some 33), (some (23, true)), false, .fa 0 0 (.t 32)⟩,
 ⟨(some 34), (some (23, true)), false, .ld none (.t 33)⟩,
 ⟨(some 35), (some (23, true)), false, .bin .geq (.t 29) (.t 34)⟩,
 ⟨(some 36), (some (20, false)), false, .pick (.t 23) (.t 35) (.k (.d (.bool false)))⟩,
 ⟨(some 37), none, false, .pick (.t 20) (.k (.d (.bool true))) (.t 36)⟩])
 (.cond (.t 37)
 (.seq
 (.reg false [4] [⟨(some 4), none, false, .mov (.k (.d (.bool false)))⟩])
 .ret)
 .skip))
 (.seq
 (.reg true [0, 1, 5, 6] [⟨(some 38), none, false, .mov (.t 5)⟩,
 ⟨(some 39), none, false, .mov (.t 1)⟩,
 ⟨(some 40), none, false, .mov (.t 6)⟩,
 ⟨(some 41), none, false, .ia 5 (.t 39) (.t 40)⟩,
 ⟨(some 42), none, false, .fa 1 1 (.t 41)⟩,
 ⟨(some 43), none, false, .ld none (.t 42)⟩,
 ⟨(some 44), none, false, .bin .add (.t 38) (.t 43)⟩,
 ⟨(some 45), none, false, .mov (.t 1)⟩,
 ⟨(some 46), none, false, .mov (.t 6)⟩,
 ⟨(some 47), none, false, .ia 5 (.t 45) (.t 46)⟩,
 ⟨(some 48), none, false, .ld (some 5) (.t 47)⟩,
 ⟨(some 49), none, false, .callP 80 [(.t 48)]⟩,
 ⟨(some 50), none, false, .bin .sub (.t 44) (.t 49)⟩,
 ⟨(some 5), none, false, .mov (.t 50)⟩])
 (.seq
 (.reg false [0, 1, 5, 6, 52] [⟨(some 51), none, false, .mov (.t 5)⟩,
 ⟨(some 52), none, false, .bin .lss (.t 51) (.k (.d (.int .i64 0)))⟩])
 (.cond (.t 52)
 (.seq
 (.reg false [4] [⟨(some 4), none, false, .mov (.k (.d (.bool false)))⟩])
 .ret)
 .skip)))))
 (.reg false [0, 1, 5, 6] [⟨(some 12), none, false, .mov (.t 6)⟩,
 ⟨(some 13), none, false, .bin .add (.t 12) (.k (.d (.int .i64 1)))⟩,
 ⟨(some 6), none, false, .mov (.t 13)⟩]))))))
 (.seq
 (.reg false [4] [⟨(some 53), none, false, .mov (.t 0)⟩,
 ⟨(some 54), none, true, .call 126 [(.t 53)]⟩,
 ⟨(some 55), none, false, .mov (.t 54)⟩,
 ⟨(some 56), (some (55, true)), false, .mov (.t 1)⟩,
 ⟨(some 57), (some (55, true)), false, .len false (.t 56)⟩,
 ⟨(some 58), (some (55, true)), false, .bin .leq (.t 57) (.k (.d (.int .i64 10)))⟩,
 ⟨(some 59), none, false, .pick (.t 55) (.t 58) (.k (.d (.bool false)))⟩,
 ⟨(some 4), none, false, .mov (.t 59)⟩])
 .ret))))
theorem c76 : (Go.Proofs.Try.f76).body.bind (comp prog.P (2, (Go.Proofs.Try.f76).ntmps) lv76) = some m76 := by kernel_rfl
theorem r76 : resOK prog.P (Go.Proofs.Try.f76).results.toList = true := by kernel_rfl

/-- spec.l26Rests -/
def lv77 : List (Nat × List Nat) := [(0, [0, 1]), (1, [0, 1, 5]), (2, [0, 1, 5, 6]), (3, [0, 1, 5, 6, 11]), (4, [0, 1, 5, 6]), (5, [0, 1, 5, 6]), (6, [0, 1, 5, 6]), (7, [4])]
def m77 : MC :=
  (.seq
 (.reg false [0, 1] [⟨(some 4), none, false, .mov (.k .nil)⟩])
 (.seq
 (.reg false [0, 1, 5] [⟨(some 7), none, true, .bs 1 0 (.int .i64 0) []⟩,
 ⟨(some 5), none, false, .mov (.t 7)⟩])
 (.seq
 (.seq
 (.reg false [0, 1, 5, 6] [⟨(some 6), none, false, .mov (.k (.d (.int .i64 0)))⟩])
 (.block 0
 (.loop
 (.seq
 (.seq
 (.reg false [0, 1, 5, 6, 11] [⟨(some 8), none, false, .mov (.t 6)⟩,
 ⟨(some 9), none, false, .mov (.t 1)⟩,
 ⟨(some 10), none, false, .len false (.t 9)⟩,
 ⟨(some 11), none, false, .bin .lss (.t 8) (.t 10)⟩])
 (.cond (.t 11)
 .skip
 (.exit 0)))
 (.seq
 (.block 1
 (.seq
 (.reg true [0, 1, 5, 6] [⟨(some 14), none, false, .mov (.t 0)⟩,
 ⟨(some 15), none, false, .mov (.t 1)⟩,
 ⟨(some 16), none, false, .mov (.t 6)⟩,
 ⟨(some 17), none, false, .ia 5 (.t 15) (.t 16)⟩,
 ⟨(some 18), none, false, .fa 1 1 (.t 17)⟩,
 ⟨(some 19), none, false, .ld none (.t 18)⟩,
 ⟨(some 20), none, false, .bin .add (.t 14) (.t 19)⟩,
 ⟨(some 21), none, false, .mov (.t 1)⟩,
 ⟨(some 22), none, false, .mov (.t 6)⟩,
 ⟨(some 23), none, false, .ia 5 (.t 21) (.t 22)⟩,
 ⟨(some 24), none, false, .ld (some 5) (.t 23)⟩,
 ⟨(some 25), none, false, .callP 80 [(.t 24)]⟩,
 ⟨(some 26), none, false, .bin .sub (.t 20) (.t 25)⟩,
 ⟨(some 0), none, false, .mov (.t 26)⟩])
 (.reg false [0, 1, 5, 6] [⟨(some 27), none, false, .mov (.t 5)⟩,
 ⟨(some 28), none, false, .mov (.t 0)⟩,
 ⟨(some 29), none, true, .bs 1 1 (.int .i64 0) [(0, (.t 28))]⟩,
 ⟨(some 30), none, true, .app 1 8 (.t 27) (.t 29)⟩,
 ⟨(some 5), none, false, .mov (.t 30)⟩])))
 (.reg false [0, 1, 5, 6] [⟨(some 12), none, false, .mov (.t 6)⟩,
 ⟨(some 13), none, false, .bin .add (.t 12) (.k (.d (.int .i64 1)))⟩,
 ⟨(some 6), none, false, .mov (.t 13)⟩]))))))
 (.seq
 (.reg false [4] [⟨(some 31), none, false, .mov (.t 5)⟩,
 ⟨(some 4), none, false, .mov (.t 31)⟩])
 .ret))))
theorem c77 : (Go.Proofs.Try.f77).body.bind (comp prog.P (0, (Go.Proofs.Try.f77).ntmps) lv77) = some m77 := by kernel_rfl
theorem r77 : resOK prog.P (Go.Proofs.Try.f77).results.toList = true := by kernel_rfl

/-- impl.YearRow).gone -/
def lv78 : List (Nat × List Nat) := [(0, [1]), (1, [2])]
def m78 : MC :=
  (.seq
 (.reg false [1] [⟨(some 1), none, true, .box (.t 0)⟩,
 ⟨(some 2), none, false, .mov (.k (.d (.int .i64 0)))⟩])
 (.seq
 (.reg false [2] [⟨(some 3), none, false, .fa 2 2 (.t 1)⟩,
 ⟨(some 4), none, false, .ld none (.t 3)⟩,
 ⟨(some 5), none, false, .fa 3 3 (.t 1)⟩,
 ⟨(some 6), none, false, .ld none (.t 5)⟩,
 ⟨(some 7), none, false, .bin .add (.t 4) (.t 6)⟩,
 ⟨(some 8), none, false, .fa 4 4 (.t 1)⟩,
 ⟨(some 9), none, false, .ld none (.t 8)⟩,
 ⟨(some 10), none, false, .bin .add (.t 7) (.t 9)⟩,
 ⟨(some 2), none, false, .mov (.t 10)⟩])
 .ret))
theorem c78 : (Go.Proofs.Try.f78).body.bind (comp prog.P (1, (Go.Proofs.Try.f78).ntmps) lv78) = some m78 := by kernel_rfl
theorem r78 : resOK prog.P (Go.Proofs.Try.f78).results.toList = true := by kernel_rfl

/-- impl.ceilDiv -/
def lv79 : List (Nat × List Nat) := [(0, [0, 1]), (1, [4])]
def m79 : MC :=
  (.seq
 (.reg false [0, 1] [⟨(some 4), none, false, .mov (.k (.d (.int .i64 0)))⟩])
 (.seq
 (.reg false [4] [⟨(some 5), none, false, .mov (.t 0)⟩,
 ⟨(some 6), none, false, .mov (.t 1)⟩,
 ⟨(some 7), none, false, .bin .add (.t 5) (.t 6)⟩,
 ⟨(some 8), none, false, .bin .sub (.t 7) (.k (.d (.int .i64 1)))⟩,
 ⟨(some 9), none, false, .mov (.t 1)⟩,
 ⟨(some 10), none, false, .bin .quo (.t 8) (.t 9)⟩,
 ⟨(some 4), none, false, .mov (.t 10)⟩])
 .ret))
theorem c79 : (Go.Proofs.Try.f79).body.bind (comp prog.P (2, (Go.Proofs.Try.f79).ntmps) lv79) = some m79 := by kernel_rfl
theorem r79 : resOK prog.P (Go.Proofs.Try.f79).results.toList = true := by kernel_rfl

/-- spec.l26Gone -/
def lv80 : List (Nat × List Nat) := [(0, [1]), (1, [2])]
def m80 : MC :=
  (.seq
 (.reg false [1] [⟨(some 1), none, true, .box (.t 0)⟩,
 ⟨(some 2), none, false, .mov (.k (.d (.int .i64 0)))⟩])
 (.seq
 (.reg false [2] [⟨(some 3), none, false, .fa 2 2 (.t 1)⟩,
 ⟨(some 4), none, false, .ld none (.t 3)⟩,
 ⟨(some 5), none, false, .fa 3 3 (.t 1)⟩,
 ⟨(some 6), none, false, .ld none (.t 5)⟩,
 ⟨(some 7), none, false, .bin .add (.t 4) (.t 6)⟩,
 ⟨(some 8), none, false, .fa 4 4 (.t 1)⟩,
 ⟨(some 9), none, false, .ld none (.t 8)⟩,
 ⟨(some 10), none, false, .bin .add (.t 7) (.t 9)⟩,
 ⟨(some 2), none, false, .mov (.t 10)⟩])
 .ret))
theorem c80 : (Go.Proofs.Try.f80).body.bind (comp prog.P (1, (Go.Proofs.Try.f80).ntmps) lv80) = some m80 := by kernel_rfl
theorem r80 : resOK prog.P (Go.Proofs.Try.f80).results.toList = true := by kernel_rfl

/-- impl.AreYearRows -/
def lv81 : List (Nat × List Nat) := [(0, [0, 1]), (1, [6]), (2, [4])]
def m81 : MC :=
  (.seq
 (.reg false [0, 1] [⟨(some 4), none, false, .mov (.k (.d (.bool false)))⟩])
 (.seq
 (.reg false [6] [⟨(some 8), none, false, .mov (.t 0)⟩,
 ⟨(some 9), none, false, .mov (.t 1)⟩,
 ⟨(some 10), none, true, .call 73 [(.t 8), (.t 9)]⟩,
 ⟨(some 7), none, false, .mov (.t 10)⟩,
 ⟨(some 11), none, false, .ext (.t 7) 0⟩,
 ⟨(some 12), none, false, .ext (.t 7) 1⟩,
 ⟨(some 5), none, false, .mov (.t 11)⟩,
 ⟨(some 6), none, false, .mov (.t 12)⟩])
 (.seq
 (.reg false [4] [⟨(some 13), none, false, .mov (.t 6)⟩,
 ⟨(some 4), none, false, .mov (.t 13)⟩])
 .ret)))
theorem c81 : (Go.Proofs.Try.f81).body.bind (comp prog.P (2, (Go.Proofs.Try.f81).ntmps) lv81) = some m81 := by kernel_rfl
theorem r81 : resOK prog.P (Go.Proofs.Try.f81).results.toList = true := by kernel_rfl

/-- impl.reduced -/
def lv82 : List (Nat × List Nat) := [(0, [0, 1]), (1, [0, 1, 6]), (2, [4, 5])]
def m82 : MC :=
  (.seq
 (.reg false [0, 1] [⟨(some 4), none, false, .mov (.k (.d (.int .i64 0)))⟩,
 ⟨(some 5), none, false, .mov (.k (.d (.int .i64 0)))⟩])
 (.seq
 (.reg false [0, 1, 6] [⟨(some 7), none, false, .mov (.t 0)⟩,
 ⟨(some 8), none, false, .mov (.t 1)⟩,
 ⟨(some 9), none, true, .call 127 [(.t 7), (.t 8)]⟩,
 ⟨(some 6), none, false, .mov (.t 9)⟩])
 (.seq
 (.reg true [4, 5] [⟨(some 10), none, false, .mov (.t 0)⟩,
 ⟨(some 11), none, false, .mov (.t 6)⟩,
 ⟨(some 12), none, false, .bin .quo (.t 10) (.t 11)⟩,
 ⟨(some 13), none, false, .mov (.t 1)⟩,
 ⟨(some 14), none, false, .mov (.t 6)⟩,
 ⟨(some 15), none, false, .bin .quo (.t 13) (.t 14)⟩,
 ⟨(some 4), none, false, .mov (.t 12)⟩,
 ⟨(some 5), none, false, .mov (.t 15)⟩])
 .ret)))
theorem c82 : (Go.Proofs.Try.f82).body.bind (comp prog.P (2, (Go.Proofs.Try.f82).ntmps) lv82) = some m82 := by kernel_rfl
theorem r82 : resOK prog.P (Go.Proofs.Try.f82).results.toList = true := by kernel_rfl

/-- spec.l2Reduce -/
def lv83 : List (Nat × List Nat) := [(0, [0, 1]), (1, [0, 1, 6, 7]), (2, [0, 1, 6, 7, 15]), (3, [0, 1, 7, 8]), (4, [0, 1, 6, 8]), (5, [0, 1, 6, 7]), (6, [4, 5])]
def m83 : MC :=
  (.seq
 (.reg false [0, 1] [⟨(some 4), none, false, .mov (.k (.d (.int .i64 0)))⟩,
 ⟨(some 5), none, false, .mov (.k (.d (.int .i64 0)))⟩])
 (.seq
 (.reg false [0, 1, 6, 7] [⟨(some 9), none, false, .mov (.t 0)⟩,
 ⟨(some 10), none, false, .mov (.t 0)⟩,
 ⟨(some 11), none, false, .un .neg (.t 10)⟩,
 ⟨(some 12), none, true, .call 100 [(.t 9), (.t 11)]⟩,
 ⟨(some 13), none, false, .mov (.t 1)⟩,
 ⟨(some 6), none, false, .mov (.t 12)⟩,
 ⟨(some 7), none, false, .mov (.t 13)⟩])
 (.seq
 (.block 0
 (.loop
 (.seq
 (.seq
 (.reg false [0, 1, 6, 7, 15] [⟨(some 14), none, false, .mov (.t 7)⟩,
 ⟨(some 15), none, false, .bin .neq (.t 14) (.k (.d (.int .i64 0)))⟩])
 (.cond (.t 15)
 .skip
 (.exit 0)))
 (.block 1
 (.seq
 (.reg false [0, 1, 7, 8] [⟨(some 16), none, false, .mov (.t 6)⟩,
 ⟨(some 17), none, false, .mov (.t 7)⟩,
 ⟨(some 18), none, false, .bin .rem (.t 16) (.t 17)⟩,
 ⟨(some 8), none, false, .mov (.t 18)⟩])
 (.seq
 (.reg false [0, 1, 6, 8] [⟨(some 19), none, false, .mov (.t 7)⟩,
 ⟨(some 6), none, false, .mov (.t 19)⟩])
 (.reg false [0, 1, 6, 7] [⟨(some 20), none, false, .mov (.t 8)⟩,
 ⟨(some 7), none, false, .mov (.t 20)⟩])))))))
 (.seq
 (.reg true [4, 5] [⟨(some 21), none, false, .mov (.t 0)⟩,
 ⟨(some 22), none, false, .mov (.t 6)⟩,
 ⟨(some 23), none, false, .bin .quo (.t 21) (.t 22)⟩,
 ⟨(some 24), none, false, .mov (.t 1)⟩,
 ⟨(some 25), none, false, .mov (.t 6)⟩,
 ⟨(some 26), none, false, .bin .quo (.t 24) (.t 25)⟩,
 ⟨(some 4), none, false, .mov (.t 23)⟩,
 ⟨(some 5), none, false, .mov (.t 26)⟩])
 .ret))))
theorem c83 : (Go.Proofs.Try.f83).body.bind (comp prog.P (2, (Go.Proofs.Try.f83).ntmps) lv83) = some m83 := by kernel_rfl
theorem r83 : resOK prog.P (Go.Proofs.Try.f83).results.toList = true := by kernel_rfl

/-- spec.l1Cur).among -/
def lv85 : List (Nat × List Nat) := [(0, [0, 1]), (1, [0, 4])]
def m85 : MC :=
  (.seq
 (.reg false [0, 1] [⟨(some 4), none, false, .mov (.k (.d (.int .i64 0)))⟩])
 (.seq
 (.reg false [0, 4] [⟨(some 5), none, false, .mov (.t 1)⟩,
 ⟨(some 6), none, false, .mov (.t 0)⟩,
 ⟨(some 7), none, false, .mov (.t 1)⟩,
 ⟨(some 8), none, false, .len false (.t 7)⟩,
 ⟨(some 9), none, true, .call 86 [(.t 6), (.t 8)]⟩,
 ⟨(some 10), none, false, .ia 1 (.t 5) (.t 9)⟩,
 ⟨(some 11), none, false, .ld none (.t 10)⟩,
 ⟨(some 4), none, false, .mov (.t 11)⟩])
 .ret))
theorem c85 : (Go.Proofs.Try.f85).body.bind (comp prog.P (2, (Go.Proofs.Try.f85).ntmps) lv85) = some m85 := by kernel_rfl
theorem r85 : resOK prog.P (Go.Proofs.Try.f85).results.toList = true := by kernel_rfl

/-- spec.l1Cur).pick -/
def lv86 : List (Nat × List Nat) := [(0, [0, 1]), (1, [0, 1, 7]), (2, [0, 4]), (3, [0, 1, 5]), (4, [0, 1, 5, 11]), (5, [0, 1, 5]), (6, [0, 4])]
def m86 : MC :=
  (.seq
 (.reg false [0, 1] [⟨(some 4), none, false, .mov (.k (.d (.int .i64 0)))⟩])
 (.seq
 (.seq
 (.reg false [0, 1, 7] [⟨(some 6), none, false, .mov (.t 1)⟩,
 ⟨(some 7), none, false, .bin .leq (.t 6) (.k (.d (.int .i64 1)))⟩])
 (.cond (.t 7)
 (.seq
 (.reg false [0, 4] [⟨(some 4), none, false, .mov (.k (.d (.int .i64 0)))⟩])
 .ret)
 .skip))
 (.seq
 (.reg false [0, 1, 5] [⟨(some 8), none, false, .mov (.t 0)⟩,
 ⟨(some 9), none, true, .call 128 [(.t 8)]⟩,
 ⟨(some 5), none, false, .mov (.t 9)⟩])
 (.seq
 (.seq
 (.reg false [0, 1, 5, 11] [⟨(some 10), none, false, .mov (.t 1)⟩,
 ⟨(some 11), none, false, .bin .gtr (.t 10) (.k (.d (.int .i64 200)))⟩])
 (.cond (.t 11)
 (.reg false [0, 1, 5] [⟨(some 12), none, false, .mov (.t 5)⟩,
 ⟨(some 13), none, false, .bin .mul (.t 12) (.k (.d (.int .i64 256)))⟩,
 ⟨(some 14), none, false, .mov (.t 0)⟩,
 ⟨(some 15), none, true, .call 128 [(.t 14)]⟩,
 ⟨(some 16), none, false, .bin .add (.t 13) (.t 15)⟩,
 ⟨(some 5), none, false, .mov (.t 16)⟩])
 .skip))
 (.seq
 (.reg false [0, 4] [⟨(some 17), none, false, .mov (.t 5)⟩,
 ⟨(some 18), none, false, .mov (.t 1)⟩,
 ⟨(some 19), none, false, .bin .rem (.t 17) (.t 18)⟩,
 ⟨(some 4), none, false, .mov (.t 19)⟩])
 .ret)))))
theorem c86 : (Go.Proofs.Try.f86).body.bind (comp prog.P (2, (Go.Proofs.Try.f86).ntmps) lv86) = some m86 := by kernel_rfl
theorem r86 : resOK prog.P (Go.Proofs.Try.f86).results.toList = true := by kernel_rfl

/-- spec.l1Most -/
def lv100 : List (Nat × List Nat) := [(0, [0, 1]), (1, [0, 1, 7]), (2, [4]), (3, [4])]
def m100 : MC :=
  (.seq
 (.reg false [0, 1] [⟨(some 4), none, false, .mov (.k (.d (.int .i64 0)))⟩])
 (.seq
 (.seq
 (.reg false [0, 1, 7] [⟨(some 5), none, false, .mov (.t 0)⟩,
 ⟨(some 6), none, false, .mov (.t 1)⟩,
 ⟨(some 7), none, false, .bin .gtr (.t 5) (.t 6)⟩])
 (.cond (.t 7)
 (.seq
 (.reg false [4] [⟨(some 8), none, false, .mov (.t 0)⟩,
 ⟨(some 4), none, false, .mov (.t 8)⟩])
 .ret)
 .skip))
 (.seq
 (.reg false [4] [⟨(some 9), none, false, .mov (.t 1)⟩,
 ⟨(some 4), none, false, .mov (.t 9)⟩])
 .ret)))
theorem c100 : (Go.Proofs.Try.f100).body.bind (comp prog.P (2, (Go.Proofs.Try.f100).ntmps) lv100) = some m100 := by kernel_rfl
theorem r100 : resOK prog.P (Go.Proofs.Try.f100).results.toList = true := by kernel_rfl

/-- spec.l1Cur).one -/
def lv102 : List (Nat × List Nat) := [(0, [0, 1]), (1, [0, 4])]
def m102 : MC :=
  (.seq
 (.reg false [0, 1] [⟨(some 4), none, false, .mov (.k (.d (.bool false)))⟩])
 (.seq
 (.reg false [0, 4] [⟨(some 5), none, false, .mov (.t 0)⟩,
 ⟨(some 6), none, false, .mov (.t 1)⟩,
 ⟨(some 7), none, true, .call 86 [(.t 5), (.t 6)]⟩,
 ⟨(some 8), none, false, .bin .eql (.t 7) (.k (.d (.int .i64 0)))⟩,
 ⟨(some 4), none, false, .mov (.t 8)⟩])
 .ret))
theorem c102 : (Go.Proofs.Try.f102).body.bind (comp prog.P (2, (Go.Proofs.Try.f102).ntmps) lv102) = some m102 := by kernel_rfl
theorem r102 : resOK prog.P (Go.Proofs.Try.f102).results.toList = true := by kernel_rfl

/-- impl.within -/
def lv111 : List (Nat × List Nat) := [(0, [0, 1, 2]), (1, [6])]
def m111 : MC :=
  (.seq
 (.reg false [0, 1, 2] [⟨(some 6), none, false, .mov (.k (.d (.bool false)))⟩])
 (.seq
 (.reg false [6] [⟨(some 7), none, false, .mov (.t 1)⟩,
 ⟨(some 8), none, false, .mov (.t 0)⟩,
 ⟨(some 9), none, false, .bin .leq (.t 7) (.t 8)⟩,
 ⟨(some 10), none, false, .mov (.t 9)⟩,
 ⟨(some 11), (some (10, true)), false, .mov (.t 0)⟩,
 ⟨(some 12), (some (10, true)), false, .mov (.t 2)⟩,
 ⟨(some 13), (some (10, true)), false, .bin .leq (.t 11) (.t 12)⟩,
 ⟨(some 14), none, false, .pick (.t 10) (.t 13) (.k (.d (.bool false)))⟩,
 ⟨(some 6), none, false, .mov (.t 14)⟩])
 .ret))
theorem c111 : (Go.Proofs.Try.f111).body.bind (comp prog.P (3, (Go.Proofs.Try.f111).ntmps) lv111) = some m111 := by kernel_rfl
theorem r111 : resOK prog.P (Go.Proofs.Try.f111).results.toList = true := by kernel_rfl

/-- spec.l1Cur).yearRows -/
def lv122 : List (Nat × List Nat) := [(0, [0]), (1, [0, 4]), (2, [0, 4, 5]), (3, [0, 4, 5, 6]), (4, [0, 4, 5, 6, 7]), (5, [0, 4, 5, 6, 7, 20]), (6, [0, 4, 5, 6, 7]), (7, [0, 4, 5, 6, 7, 8]), (8, [0, 4, 5, 6, 7, 8, 37]), (9, [0, 4, 5, 6, 7]), (10, [0, 4, 5, 6, 7]), (11, [0, 4, 5, 45]), (12, [0, 4, 5, 45, 46]), (13, [0, 4, 5]), (14, [0, 4, 5, 51]), (15, [0, 4, 5]), (16, [0, 4, 5, 9]), (17, [0, 4, 5, 9, 58]), (18, [0, 4, 5, 9]), (19, [0, 4, 5, 9]), (20, [0, 2, 3])]
def m122 : MC :=
  (.seq
 (.reg false [0] [⟨(some 2), none, false, .mov (.k (.d (.int .i64 0)))⟩,
 ⟨(some 3), none, false, .mov (.k .nil)⟩])
 (.seq
 (.reg false [0, 4] [⟨(some 10), none, false, .mov (.t 0)⟩,
 ⟨(some 11), none, true, .bs 1 4 (.int .i64 0) [(0, (.k (.d (.int .i64 0)))), (1, (.k (.d (.int .i64 20)))), (2, (.k (.d (.int .i64 100)))), (3, (.k (.d (.int .i64 9999))))]⟩,
 ⟨(some 12), none, true, .call 85 [(.t 10), (.t 11)]⟩,
 ⟨(some 4), none, false, .mov (.t 12)⟩])
 (.seq
 (.reg false [0, 4, 5] [⟨(some 13), none, true, .bs 5 0 (.st (.cons (.int .i64 0) (.cons (.int .i64 0) (.cons (.int .i64 0) (.cons (.int .i64 0) (.cons (.int .i64 0) .nil)))))) []⟩,
 ⟨(some 5), none, false, .mov (.t 13)⟩])
 (.seq
 (.reg false [0, 4, 5, 6] [⟨(some 14), none, false, .mov (.t 0)⟩,
 ⟨(some 15), none, true, .bs 1 3 (.int .i64 0) [(0, (.k (.d (.int .i64 1900)))), (1, (.k (.d (.int .i64 1990)))), (2, (.k (.d (.int .i64 2150))))]⟩,
 ⟨(some 16), none, true, .call 85 [(.t 14), (.t 15)]⟩,
 ⟨(some 6), none, false, .mov (.t 16)⟩])
 (.seq
 (.seq
 (.reg false [0, 4, 5, 6, 7] [⟨(some 17), none, false, .mov (.t 0)⟩,
 ⟨(some 18), none, true, .call 86 [(.t 17), (.k (.d (.int .i64 8)))]⟩,
 ⟨(some 7), none, false, .mov (.t 18)⟩])
 (.block 0
 (.loop
 (.seq
 (.seq
 (.reg false [0, 4, 5, 6, 7, 20] [⟨(some 19), none, false, .mov (.t 7)⟩,
 ⟨(some 20), none, false, .bin .gtr (.t 19) (.k (.d (.int .i64 0)))⟩])
 (.cond (.t 20)
 .skip
 (.exit 0)))
 (.seq
 (.block 1
 (.seq
 (.seq
 (.reg false [0, 4, 5, 6, 7, 8] [⟨(some 23), none, true, .bs 5 0 (.st (.cons (.int .i64 0) (.cons (.int .i64 0) (.cons (.int .i64 0) (.cons (.int .i64 0) (.cons (.int .i64 0) .nil)))))) []⟩,
 ⟨(some 24), none, false, .mov (.t 5)⟩,
 ⟨(some 25), none, true, .app 5 40 (.t 23) (.t 24)⟩,
 ⟨(some 26), none, false, .mov (.t 0)⟩,
 ⟨(some 27), none, false, .mov (.t 6)⟩,
 ⟨(some 28), none, true, .call 136 [(.t 26), (.t 27)]⟩,
 ⟨(some 29), none, true, .bs 5 1 (.st (.cons (.int .i64 0) (.cons (.int .i64 0) (.cons (.int .i64 0) (.cons (.int .i64 0) (.cons (.int .i64 0) .nil)))))) [(0, (.t 28))]⟩,
 ⟨(some 30), none, true, .app 5 40 (.t 25) (.t 29)⟩,
 ⟨(some 8), none, false, .mov (.t 30)⟩])
 (.seq
 (.reg false [0, 4, 5, 6, 7, 8, 37] [⟨(some 31), none, false, .mov (.t 4)⟩,
 ⟨(some 32), none, false, .mov (.t 8)⟩,
 ⟨(some 33), none, true, .call 76 [(.t 31), (.t 32)]⟩,
 ⟨(some 34), none, false, .mov (.t 33)⟩,
 ⟨(some 35), (some (34, false)), false, .mov (.t 0)⟩,
 ⟨(some 36), (some (34, false)), true, .call 102 [(.t 35), (.k (.d (.int .i64 30)))]⟩,
 ⟨(some 37), none, false, .pick (.t 34) (.k (.d (.bool true))) (.t 36)⟩])
 (.cond (.t 37)
 (.reg false [0, 4, 5, 6, 7] [⟨(some 38), none, false, .mov (.t 8)⟩,
 ⟨(some 5), none, false, .mov (.t 38)⟩])
 .skip)))
 (.reg false [0, 4, 5, 6, 7] [⟨(some 39), none, false, .mov (.t 6)⟩,
 ⟨(some 40), none, false, .mov (.t 0)⟩,
 ⟨(some 41), none, true, .bs 1 4 (.int .i64 0) [(0, (.k (.d (.int .i64 1)))), (1, (.k (.d (.int .i64 1)))), (2, (.k (.d (.int .i64 2)))), (3, (.k (.d (.int .i64 5))))]⟩,
 ⟨(some 42), none, true, .call 85 [(.t 40), (.t 41)]⟩,
 ⟨(some 43), none, false, .bin .add (.t 39) (.t 42)⟩,
 ⟨(some 6), none, false, .mov (.t 43)⟩])))
 (.reg false [0, 4, 5, 6, 7] [⟨(some 21), none, false, .mov (.t 7)⟩,
 ⟨(some 22), none, false, .bin .sub (.t 21) (.k (.d (.int .i64 1)))⟩,
 ⟨(some 7), none, false, .mov (.t 22)⟩]))))))
 (.seq
 (.seq
 (.reg false [0, 4, 5, 45] [⟨(some 44), none, false, .mov (.t 0)⟩,
 ⟨(some 45), none, true, .call 86 [(.t 44), (.k (.d (.int .i64 30)))]⟩])
 (.block 2
 (.seq
 (.reg false [0, 4, 5, 45, 46] [⟨(some 47), none, false, .bin .eql (.t 45) (.k (.d (.int .i64 0)))⟩,
 ⟨(some 46), none, false, .mov (.t 47)⟩])
 (.cond (.t 46)
 (.reg false [0, 4, 5] [⟨(some 48), none, false, .mov (.t 0)⟩,
 ⟨(some 49), none, true, .bs 1 2 (.int .i64 0) [(0, (.k (.d (.int .i64 (-1))))), (1, (.k (.d (.int .i64 10000))))]⟩,
 ⟨(some 50), none, true, .call 85 [(.t 48), (.t 49)]⟩,
 ⟨(some 4), none, false, .mov (.t 50)⟩])
 (.seq
 (.reg false [0, 4, 5, 51] [⟨(some 52), none, false, .bin .eql (.t 45) (.k (.d (.int .i64 1)))⟩,
 ⟨(some 51), none, false, .mov (.t 52)⟩])
 (.cond (.t 51)
 (.seq
 (.reg false [0, 4, 5] [⟨(some 53), none, true, .bs 5 0 (.st (.cons (.int .i64 0) (.cons (.int .i64 0) (.cons (.int .i64 0) (.cons (.int .i64 0) (.cons (.int .i64 0) .nil)))))) []⟩,
 ⟨(some 5), none, false, .mov (.t 53)⟩])
 (.seq
 (.reg false [0, 4, 5, 9] [⟨(some 9), none, false, .mov (.k (.d (.int .i64 0)))⟩])
 (.block 3
 (.loop
 (.seq
 (.seq
 (.reg false [0, 4, 5, 9, 58] [⟨(some 54), none, false, .mov (.t 9)⟩,
 ⟨(some 55), none, false, .mov (.t 0)⟩,
 ⟨(some 56), none, true, .call 86 [(.t 55), (.k (.d (.int .i64 2)))]⟩,
 ⟨(some 57), none, false, .bin .add (.k (.d (.int .i64 10))) (.t 56)⟩,
 ⟨(some 58), none, false, .bin .lss (.t 54) (.t 57)⟩])
 (.cond (.t 58)
 .skip
 (.exit 3)))
 (.seq
 (.block 4
 (.reg false [0, 4, 5, 9] [⟨(some 61), none, false, .mov (.t 5)⟩,
 ⟨(some 62), none, false, .mov (.t 9)⟩,
 ⟨(some 63), none, false, .bin .add (.k (.d (.int .i64 2000))) (.t 62)⟩,
 ⟨(some 64), none, true, .bld (.cons (.int .i64 0) (.cons (.int .i64 0) (.cons (.int .i64 0) (.cons (.int .i64 0) (.cons (.int .i64 0) .nil))))) [(0, (.t 63)), (1, (.k (.d (.int .i64 1))))]⟩,
 ⟨(some 65), none, true, .bs 5 1 (.st (.cons (.int .i64 0) (.cons (.int .i64 0) (.cons (.int .i64 0) (.cons (.int .i64 0) (.cons (.int .i64 0) .nil)))))) [(0, (.t 64))]⟩,
 ⟨(some 66), none, true, .app 5 40 (.t 61) (.t 65)⟩,
 ⟨(some 5), none, false, .mov (.t 66)⟩]))
 (.reg false [0, 4, 5, 9] [⟨(some 59), none, false, .mov (.t 9)⟩,
 ⟨(some 60), none, false, .bin .add (.t 59) (.k (.d (.int .i64 1)))⟩,
 ⟨(some 9), none, false, .mov (.t 60)⟩])))))))
 .skip))))))
 (.seq
 (.reg false [0, 2, 3] [⟨(some 67), none, false, .mov (.t 4)⟩,
 ⟨(some 68), none, false, .mov (.t 5)⟩,
 ⟨(some 2), none, false, .mov (.t 67)⟩,
 ⟨(some 3), none, false, .mov (.t 68)⟩])
 .ret)))))))
theorem c122 : (Go.Proofs.Try.f122).body.bind (comp prog.P (1, (Go.Proofs.Try.f122).ntmps) lv122) = some m122 := by kernel_rfl
theorem r122 : resOK prog.P (Go.Proofs.Try.f122).results.toList = true := by kernel_rfl

/-- impl.isCount -/
def lv123 : List (Nat × List Nat) := [(0, [0]), (1, [2])]
def m123 : MC :=
  (.seq
 (.reg false [0] [⟨(some 2), none, false, .mov (.k (.d (.bool false)))⟩])
 (.seq
 (.reg false [2] [⟨(some 3), none, false, .mov (.t 0)⟩,
 ⟨(some 4), none, true, .call 111 [(.t 3), (.k (.d (.int .i64 0))), (.k (.d (.int .i64 9999)))]⟩,
 ⟨(some 2), none, false, .mov (.t 4)⟩])
 .ret))
theorem c123 : (Go.Proofs.Try.f123).body.bind (comp prog.P (1, (Go.Proofs.Try.f123).ntmps) lv123) = some m123 := by kernel_rfl
theorem r123 : resOK prog.P (Go.Proofs.Try.f123).results.toList = true := by kernel_rfl

/-- impl.IsYearRow -/
def lv124 : List (Nat × List Nat) := [(0, [1]), (1, [2])]
def m124 : MC :=
  (.seq
 (.reg false [1] [⟨(some 1), none, true, .box (.t 0)⟩,
 ⟨(some 2), none, false, .mov (.k (.d (.bool false)))⟩])
 (.seq
 (.reg false [2] [⟨(some 3), none, false, .fa 0 0 (.t 1)⟩,
 ⟨(some 4), none, false, .ld none (.t 3)⟩,
 ⟨(some 5), none, true, .call 111 [(.t 4), (.k (.d (.int .i64 1900))), (.k (.d (.int .i64 2200)))]⟩,
 ⟨(some 6), none, false, .mov (.t 5)⟩,
 ⟨(some 7), (some (6, true)), false, .fa 1 1 (.t 1)⟩,
 ⟨(some 8), (some (6, true)), false, .ld none (.t 7)⟩,
 ⟨(some 9), (some (6, true)), true, .call 123 [(.t 8)]⟩,
 ⟨(some 10), none, false, .pick (.t 6) (.t 9) (.k (.d (.bool false)))⟩,
 ⟨(some 11), none, false, .mov (.t 10)⟩,
 ⟨(some 12), (some (11, true)), false, .fa 2 2 (.t 1)⟩,
 ⟨(some 13), (some (11, true)), false, .ld none (.t 12)⟩,
 ⟨(some 14), (some (11, true)), true, .call 123 [(.t 13)]⟩,
 ⟨(some 15), none, false, .pick (.t 11) (.t 14) (.k (.d (.bool false)))⟩,
 ⟨(some 16), none, false, .mov (.t 15)⟩,
 ⟨(some 17), (some (16, true)), false, .fa 3 3 (.t 1)⟩,
 ⟨(some 18), (some (16, true)), false, .ld none (.t 17)⟩,
 ⟨(some 19), (some (16, true)), true, .call 123 [(.t 18)]⟩,
 ⟨(some 20), none, false, .pick (.t 16) (.t 19) (.k (.d (.bool false)))⟩,
 ⟨(some 21), none, false, .mov (.t 20)⟩,
 ⟨(some 22), (some (21, true)), false, .fa 4 4 (.t 1)⟩,
 ⟨(some 23), (some (21, true)), false, .ld none (.t 22)⟩,
 ⟨(some 24), (some (21, true)), true, .call 123 [(.t 23)]⟩,
 ⟨(some 25), none, false, .pick (.t 21) (.t 24) (.k (.d (.bool false)))⟩,
 ⟨(some 2), none, false, .mov (.t 25)⟩])
 .ret))
theorem c124 : (Go.Proofs.Try.f124).body.bind (comp prog.P (1, (Go.Proofs.Try.f124).ntmps) lv124) = some m124 := by kernel_rfl
theorem r124 : resOK prog.P (Go.Proofs.Try.f124).results.toList = true := by kernel_rfl

/-- spec.l26One -/
def lv125 : List (Nat × List Nat) := [(0, [1]), (1, [2])]
def m125 : MC :=
  (.seq
 (.reg false [1] [⟨(some 1), none, true, .box (.t 0)⟩,
 ⟨(some 2), none, false, .mov (.k (.d (.bool false)))⟩])
 (.seq
 (.reg false [2] [⟨(some 3), none, false, .fa 0 0 (.t 1)⟩,
 ⟨(some 4), none, false, .ld none (.t 3)⟩,
 ⟨(some 5), none, true, .call 131 [(.t 4), (.k (.d (.int .i64 1900))), (.k (.d (.int .i64 2200)))]⟩,
 ⟨(some 6), none, false, .mov (.t 5)⟩,
 ⟨(some 7), (some (6, true)), false, .fa 1 1 (.t 1)⟩,
 ⟨(some 8), (some (6, true)), false, .ld none (.t 7)⟩,
 ⟨(some 9), (some (6, true)), true, .call 126 [(.t 8)]⟩,
 ⟨(some 10), none, false, .pick (.t 6) (.t 9) (.k (.d (.bool false)))⟩,
 ⟨(some 11), none, false, .mov (.t 10)⟩,
 ⟨(some 12), (some (11, true)), false, .fa 2 2 (.t 1)⟩,
 ⟨(some 13), (some (11, true)), false, .ld none (.t 12)⟩,
 ⟨(some 14), (some (11, true)), true, .call 126 [(.t 13)]⟩,
 ⟨(some 15), none, false, .pick (.t 11) (.t 14) (.k (.d (.bool false)))⟩,
 ⟨(some 16), none, false, .mov (.t 15)⟩,
 ⟨(some 17), (some (16, true)), false, .fa 3 3 (.t 1)⟩,
 ⟨(some 18), (some (16, true)), false, .ld none (.t 17)⟩,
 ⟨(some 19), (some (16, true)), true, .call 126 [(.t 18)]⟩,
 ⟨(some 20), none, false, .pick (.t 16) (.t 19) (.k (.d (.bool false)))⟩,
 ⟨(some 21), none, false, .mov (.t 20)⟩,
 ⟨(some 22), (some (21, true)), false, .fa 4 4 (.t 1)⟩,
 ⟨(some 23), (some (21, true)), false, .ld none (.t 22)⟩,
 ⟨(some 24), (some (21, true)), true, .call 126 [(.t 23)]⟩,
 ⟨(some 25), none, false, .pick (.t 21) (.t 24) (.k (.d (.bool false)))⟩,
 ⟨(some 2), none, false, .mov (.t 25)⟩])
 .ret))
theorem c125 : (Go.Proofs.Try.f125).body.bind (comp prog.P (1, (Go.Proofs.Try.f125).ntmps) lv125) = some m125 := by kernel_rfl
theorem r125 : resOK prog.P (Go.Proofs.Try.f125).results.toList = true := by kernel_rfl

/-- spec.l26Count -/
def lv126 : List (Nat × List Nat) := [(0, [0]), (1, [2])]
def m126 : MC :=
  (.seq
 (.reg false [0] [⟨(some 2), none, false, .mov (.k (.d (.bool false)))⟩])
 (.seq
 (.reg false [2] [⟨(some 3), none, false, .mov (.t 0)⟩,
 ⟨(some 4), none, true, .call 131 [(.t 3), (.k (.d (.int .i64 0))), (.k (.d (.int .i64 9999)))]⟩,
 ⟨(some 2), none, false, .mov (.t 4)⟩])
 .ret))
theorem c126 : (Go.Proofs.Try.f126).body.bind (comp prog.P (1, (Go.Proofs.Try.f126).ntmps) lv126) = some m126 := by kernel_rfl
theorem r126 : resOK prog.P (Go.Proofs.Try.f126).results.toList = true := by kernel_rfl

/-- impl.gcd -/
def lv127 : List (Nat × List Nat) := [(0, [0, 1]), (1, [0, 1]), (2, [0, 1, 10]), (3, [0, 1]), (4, [4])]
def m127 : MC :=
  (.seq
 (.reg false [0, 1] [⟨(some 4), none, false, .mov (.k (.d (.int .i64 0)))⟩])
 (.seq
 (.reg false [0, 1] [⟨(some 5), none, false, .mov (.t 0)⟩,
 ⟨(some 6), none, true, .call 137 [(.t 5)]⟩,
 ⟨(some 7), none, false, .mov (.t 1)⟩,
 ⟨(some 8), none, true, .call 137 [(.t 7)]⟩,
 ⟨(some 0), none, false, .mov (.t 6)⟩,
 ⟨(some 1), none, false, .mov (.t 8)⟩])
 (.seq
 (.block 0
 (.loop
 (.seq
 (.seq
 (.reg false [0, 1, 10] [⟨(some 9), none, false, .mov (.t 1)⟩,
 ⟨(some 10), none, false, .bin .neq (.t 9) (.k (.d (.int .i64 0)))⟩])
 (.cond (.t 10)
 .skip
 (.exit 0)))
 (.block 1
 (.reg true [0, 1] [⟨(some 11), none, false, .mov (.t 1)⟩,
 ⟨(some 12), none, false, .mov (.t 0)⟩,
 ⟨(some 13), none, false, .mov (.t 1)⟩,
 ⟨(some 14), none, false, .bin .rem (.t 12) (.t 13)⟩,
 ⟨(some 0), none, false, .mov (.t 11)⟩,
 ⟨(some 1), none, false, .mov (.t 14)⟩])))))
 (.seq
 (.reg false [4] [⟨(some 15), none, false, .mov (.t 0)⟩,
 ⟨(some 4), none, false, .mov (.t 15)⟩])
 .ret))))
theorem c127 : (Go.Proofs.Try.f127).body.bind (comp prog.P (0, (Go.Proofs.Try.f127).ntmps) lv127) = some m127 := by kernel_rfl
theorem r127 : resOK prog.P (Go.Proofs.Try.f127).results.toList = true := by kernel_rfl

/-- spec.l1Cur).next -/
def lv128 : List (Nat × List Nat) := [(0, [0]), (1, [0, 3]), (2, [0, 3, 13]), (3, [0, 3]), (4, [0, 3]), (5, [0, 3]), (6, [0, 3, 53]), (7, [0, 2]), (8, [0, 2])]
def m128 : MC :=
  (.seq
 (.reg false [0] [⟨(some 2), none, false, .mov (.k (.d (.int .i64 0)))⟩])
 (.seq
 (.reg false [0, 3] [⟨(some 3), none, false, .mov (.k (.d (.int .i64 0)))⟩])
 (.seq
 (.seq
 (.reg true [0, 3, 13] [⟨(some 4), none, false, .mov (.t 0)⟩,
 ⟨(some 5), none, false, .nck (.t 4)⟩,
 ⟨(some 6), none, false, .fa 1 1 (.t 5)⟩,
 ⟨(some 7), none, false, .ld none (.t 6)⟩,
 ⟨(some 8), none, false, .mov (.t 0)⟩,
 ⟨(some 9), none, false, .nck (.t 8)⟩,
 ⟨(some 10), none, false, .fa 0 0 (.t 9)⟩,
 ⟨(some 11), none, false, .ld none (.t 10)⟩,
 ⟨(some 12), none, false, .len false (.t 11)⟩,
 ⟨(some 13), none, false, .bin .lss (.t 7) (.t 12)⟩])
 (.cond (.t 13)
 (.reg true [0, 3] [⟨(some 14), none, false, .mov (.t 0)⟩,
 ⟨(some 15), none, false, .nck (.t 14)⟩,
 ⟨(some 16), none, false, .fa 0 0 (.t 15)⟩,
 ⟨(some 17), none, false, .ld none (.t 16)⟩,
 ⟨(some 18), none, false, .mov (.t 0)⟩,
 ⟨(some 19), none, false, .nck (.t 18)⟩,
 ⟨(some 20), none, false, .fa 1 1 (.t 19)⟩,
 ⟨(some 21), none, false, .ld none (.t 20)⟩,
 ⟨(some 22), none, false, .ia 1 (.t 17) (.t 21)⟩,
 ⟨(some 23), none, false, .ld none (.t 22)⟩,
 ⟨(some 24), none, false, .conv .i64 (.t 23)⟩,
 ⟨(some 3), none, false, .mov (.t 24)⟩])
 .skip))
 (.seq
 (.reg false [0, 3] [⟨(some 25), none, false, .mov (.t 0)⟩,
 ⟨(some 26), none, false, .nck (.t 25)⟩,
 ⟨(some 27), none, false, .fa 1 1 (.t 26)⟩,
 ⟨(some 28), none, false, .ld none (.t 27)⟩,
 ⟨(some 29), none, false, .bin .add (.t 28) (.k (.d (.int .i64 1)))⟩,
 ⟨(some 30), none, false, .nck (.t 25)⟩,
 ⟨(some 31), none, false, .fa 1 1 (.t 30)⟩,
 ⟨none, none, true, .st 1 (.t 31) (.t 29)⟩])
 (.seq
 (.reg false [0, 3] [⟨(some 32), none, false, .mov (.t 0)⟩,
 ⟨(some 33), none, false, .mov (.t 0)⟩,
 ⟨(some 34), none, false, .nck (.t 33)⟩,
 ⟨(some 35), none, false, .fa 2 2 (.t 34)⟩,
 ⟨(some 36), none, false, .ld none (.t 35)⟩,
 ⟨(some 37), none, false, .bin .mul (.t 36) (.k (.d (.int .u64 6364136223846793005)))⟩,
 ⟨(some 38), none, false, .mov (.t 3)⟩,
 ⟨(some 39), none, false, .conv .u64 (.t 38)⟩,
 ⟨(some 40), none, false, .bin .add (.t 37) (.t 39)⟩,
 ⟨(some 41), none, false, .bin .add (.t 40) (.k (.d (.int .u64 103535)))⟩,
 ⟨(some 42), none, false, .nck (.t 32)⟩,
 ⟨(some 43), none, false, .fa 2 2 (.t 42)⟩,
 ⟨none, none, true, .st 1 (.t 43) (.t 41)⟩])
 (.seq
 (.seq
 (.reg true [0, 3, 53] [⟨(some 44), none, false, .mov (.t 0)⟩,
 ⟨(some 45), none, false, .nck (.t 44)⟩,
 ⟨(some 46), none, false, .fa 1 1 (.t 45)⟩,
 ⟨(some 47), none, false, .ld none (.t 46)⟩,
 ⟨(some 48), none, false, .mov (.t 0)⟩,
 ⟨(some 49), none, false, .nck (.t 48)⟩,
 ⟨(some 50), none, false, .fa 0 0 (.t 49)⟩,
 ⟨(some 51), none, false, .ld none (.t 50)⟩,
 ⟨(some 52), none, false, .len false (.t 51)⟩,
 ⟨(some 53), none, false, .bin .leq (.t 47) (.t 52)⟩])
 (.cond (.t 53)
 (.seq
 (.reg false [0, 2] [⟨(some 54), none, false, .mov (.t 3)⟩,
 ⟨(some 2), none, false, .mov (.t 54)⟩])
 .ret)
 .skip))
 (.seq
 (.reg false [0, 2] [⟨(some 55), none, false, .mov (.t 0)⟩,
 ⟨(some 56), none, false, .nck (.t 55)⟩,
 ⟨(some 57), none, false, .fa 2 2 (.t 56)⟩,
 ⟨(some 58), none, false, .ld none (.t 57)⟩,
 ⟨(some 59), none, false, .shr (.t 58) (.k (.d (.int .u64 40)))⟩,
 ⟨(some 60), none, false, .bin .and (.t 59) (.k (.d (.int .u64 255)))⟩,
 ⟨(some 61), none, false, .conv .i64 (.t 60)⟩,
 ⟨(some 2), none, false, .mov (.t 61)⟩])
 .ret)))))))
theorem c128 : (Go.Proofs.Try.f128).body.bind (comp prog.P (1, (Go.Proofs.Try.f128).ntmps) lv128) = some m128 := by kernel_rfl
theorem r128 : resOK prog.P (Go.Proofs.Try.f128).results.toList = true := by kernel_rfl

/-- spec.l1In -/
def lv131 : List (Nat × List Nat) := [(0, [0, 1, 2]), (1, [6])]
def m131 : MC :=
  (.seq
 (.reg false [0, 1, 2] [⟨(some 6), none, false, .mov (.k (.d (.bool false)))⟩])
 (.seq
 (.reg false [6] [⟨(some 7), none, false, .mov (.t 0)⟩,
 ⟨(some 8), none, false, .mov (.t 1)⟩,
 ⟨(some 9), none, false, .bin .geq (.t 7) (.t 8)⟩,
 ⟨(some 10), none, false, .mov (.t 9)⟩,
 ⟨(some 11), (some (10, true)), false, .mov (.t 0)⟩,
 ⟨(some 12), (some (10, true)), false, .mov (.t 2)⟩,
 ⟨(some 13), (some (10, true)), false, .bin .leq (.t 11) (.t 12)⟩,
 ⟨(some 14), none, false, .pick (.t 10) (.t 13) (.k (.d (.bool false)))⟩,
 ⟨(some 6), none, false, .mov (.t 14)⟩])
 .ret))
theorem c131 : (Go.Proofs.Try.f131).body.bind (comp prog.P (3, (Go.Proofs.Try.f131).ntmps) lv131) = some m131 := by kernel_rfl
theorem r131 : resOK prog.P (Go.Proofs.Try.f131).results.toList = true := by kernel_rfl

/-- spec.l1Cur).yearRow -/
def lv136 : List (Nat × List Nat) := [(0, [0, 1, 4]), (1, [0, 4, 5]), (2, [0, 4, 5, 21]), (3, [0, 4, 5, 21, 22]), (4, [0, 4, 5]), (5, [0, 4, 5, 21, 28]), (6, [0, 4, 5]), (7, [0, 4, 5, 21, 34]), (8, [0, 4, 5]), (9, [0, 4, 5, 21, 40]), (10, [0, 4, 5]), (11, [0, 4, 5, 46]), (12, [0, 4, 5]), (13, [0, 4])]
def m136 : MC :=
  (.seq
 (.reg false [0, 1, 4] [⟨(some 4), none, true, .alloc (.st (.cons (.int .i64 0) (.cons (.int .i64 0) (.cons (.int .i64 0) (.cons (.int .i64 0) (.cons (.int .i64 0) .nil))))))⟩])
 (.seq
 (.reg false [0, 4, 5] [⟨(some 6), none, false, .mov (.t 1)⟩,
 ⟨(some 7), none, false, .mov (.t 0)⟩,
 ⟨(some 8), none, true, .bs 1 4 (.int .i64 0) [(0, (.k (.d (.int .i64 0)))), (1, (.k (.d (.int .i64 40)))), (2, (.k (.d (.int .i64 100)))), (3, (.k (.d (.int .i64 9999))))]⟩,
 ⟨(some 9), none, true, .call 85 [(.t 7), (.t 8)]⟩,
 ⟨(some 10), none, false, .mov (.t 0)⟩,
 ⟨(some 11), none, true, .bs 1 3 (.int .i64 0) [(0, (.k (.d (.int .i64 0)))), (1, (.k (.d (.int .i64 3)))), (2, (.k (.d (.int .i64 10))))]⟩,
 ⟨(some 12), none, true, .call 85 [(.t 10), (.t 11)]⟩,
 ⟨(some 13), none, false, .mov (.t 0)⟩,
 ⟨(some 14), none, true, .bs 1 4 (.int .i64 0) [(0, (.k (.d (.int .i64 0)))), (1, (.k (.d (.int .i64 0)))), (2, (.k (.d (.int .i64 5)))), (3, (.k (.d (.int .i64 30))))]⟩,
 ⟨(some 15), none, true, .call 85 [(.t 13), (.t 14)]⟩,
 ⟨(some 16), none, false, .mov (.t 0)⟩,
 ⟨(some 17), none, true, .bs 1 2 (.int .i64 0) [(0, (.k (.d (.int .i64 0)))), (1, (.k (.d (.int .i64 7))))]⟩,
 ⟨(some 18), none, true, .call 85 [(.t 16), (.t 17)]⟩,
 ⟨(some 19), none, true, .bld (.cons (.int .i64 0) (.cons (.int .i64 0) (.cons (.int .i64 0) (.cons (.int .i64 0) (.cons (.int .i64 0) .nil))))) [(0, (.t 6)), (1, (.t 9)), (2, (.t 12)), (3, (.t 15)), (4, (.t 18))]⟩,
 ⟨(some 5), none, true, .alloc (.st (.cons (.int .i64 0) (.cons (.int .i64 0) (.cons (.int .i64 0) (.cons (.int .i64 0) (.cons (.int .i64 0) .nil))))))⟩,
 ⟨none, none, true, .st 5 (.t 5) (.t 19)⟩])
 (.seq
 (.seq
 (.reg false [0, 4, 5, 21] [⟨(some 20), none, false, .mov (.t 0)⟩,
 ⟨(some 21), none, true, .call 86 [(.t 20), (.k (.d (.int .i64 80)))]⟩])
 (.block 0
 (.seq
 (.reg false [0, 4, 5, 21, 22] [⟨(some 23), none, false, .bin .eql (.t 21) (.k (.d (.int .i64 0)))⟩,
 ⟨(some 22), none, false, .mov (.t 23)⟩])
 (.cond (.t 22)
 (.reg false [0, 4, 5] [⟨(some 24), none, false, .mov (.t 0)⟩,
 ⟨(some 25), none, true, .bs 1 2 (.int .i64 0) [(0, (.k (.d (.int .i64 1899)))), (1, (.k (.d (.int .i64 2201))))]⟩,
 ⟨(some 26), none, true, .call 85 [(.t 24), (.t 25)]⟩,
 ⟨(some 27), none, false, .fa 0 0 (.t 5)⟩,
 ⟨none, none, true, .st 1 (.t 27) (.t 26)⟩])
 (.seq
 (.reg false [0, 4, 5, 21, 28] [⟨(some 29), none, false, .bin .eql (.t 21) (.k (.d (.int .i64 1)))⟩,
 ⟨(some 28), none, false, .mov (.t 29)⟩])
 (.cond (.t 28)
 (.reg false [0, 4, 5] [⟨(some 30), none, false, .mov (.t 0)⟩,
 ⟨(some 31), none, true, .bs 1 2 (.int .i64 0) [(0, (.k (.d (.int .i64 (-1))))), (1, (.k (.d (.int .i64 10000))))]⟩,
 ⟨(some 32), none, true, .call 85 [(.t 30), (.t 31)]⟩,
 ⟨(some 33), none, false, .fa 1 1 (.t 5)⟩,
 ⟨none, none, true, .st 1 (.t 33) (.t 32)⟩])
 (.seq
 (.reg false [0, 4, 5, 21, 34] [⟨(some 35), none, false, .bin .eql (.t 21) (.k (.d (.int .i64 2)))⟩,
 ⟨(some 34), none, false, .mov (.t 35)⟩])
 (.cond (.t 34)
 (.reg false [0, 4, 5] [⟨(some 36), none, false, .mov (.t 0)⟩,
 ⟨(some 37), none, true, .bs 1 3 (.int .i64 0) [(0, (.k (.d (.int .i64 (-1))))), (1, (.k (.d (.int .i64 9999)))), (2, (.k (.d (.int .i64 10000))))]⟩,
 ⟨(some 38), none, true, .call 85 [(.t 36), (.t 37)]⟩,
 ⟨(some 39), none, false, .fa 2 2 (.t 5)⟩,
 ⟨none, none, true, .st 1 (.t 39) (.t 38)⟩])
 (.seq
 (.reg false [0, 4, 5, 21, 40] [⟨(some 41), none, false, .bin .eql (.t 21) (.k (.d (.int .i64 3)))⟩,
 ⟨(some 40), none, false, .mov (.t 41)⟩])
 (.cond (.t 40)
 (.reg false [0, 4, 5] [⟨(some 42), none, false, .mov (.t 0)⟩,
 ⟨(some 43), none, true, .bs 1 3 (.int .i64 0) [(0, (.k (.d (.int .i64 (-1))))), (1, (.k (.d (.int .i64 9999)))), (2, (.k (.d (.int .i64 10000))))]⟩,
 ⟨(some 44), none, true, .call 85 [(.t 42), (.t 43)]⟩,
 ⟨(some 45), none, false, .fa 3 3 (.t 5)⟩,
 ⟨none, none, true, .st 1 (.t 45) (.t 44)⟩])
 (.seq
 (.reg false [0, 4, 5, 46] [⟨(some 47), none, false, .bin .eql (.t 21) (.k (.d (.int .i64 4)))⟩,
 ⟨(some 46), none, false, .mov (.t 47)⟩])
 (.cond (.t 46)
 (.reg false [0, 4, 5] [⟨(some 48), none, false, .mov (.t 0)⟩,
 ⟨(some 49), none, true, .bs 1 3 (.int .i64 0) [(0, (.k (.d (.int .i64 (-1))))), (1, (.k (.d (.int .i64 9999)))), (2, (.k (.d (.int .i64 10000))))]⟩,
 ⟨(some 50), none, true, .call 85 [(.t 48), (.t 49)]⟩,
 ⟨(some 51), none, false, .fa 4 4 (.t 5)⟩,
 ⟨none, none, true, .st 1 (.t 51) (.t 50)⟩])
 .skip))))))))))))
 (.seq
 (.reg false [0, 4] [⟨(some 52), none, false, .ld (some 5) (.t 5)⟩,
 ⟨none, none, true, .st 5 (.t 4) (.t 52)⟩])
 .ret))))
theorem c136 : (Go.Proofs.Try.f136).body.bind (comp prog.P (2, (Go.Proofs.Try.f136).ntmps) lv136) = some m136 := by kernel_rfl
theorem r136 : resOK prog.P (Go.Proofs.Try.f136).results.toList = true := by kernel_rfl

/-- impl.abs -/
def lv137 : List (Nat × List Nat) := [(0, [0]), (1, [0, 4]), (2, [2]), (3, [2])]
def m137 : MC :=
  (.seq
 (.reg false [0] [⟨(some 2), none, false, .mov (.k (.d (.int .i64 0)))⟩])
 (.seq
 (.seq
 (.reg false [0, 4] [⟨(some 3), none, false, .mov (.t 0)⟩,
 ⟨(some 4), none, false, .bin .lss (.t 3) (.k (.d (.int .i64 0)))⟩])
 (.cond (.t 4)
 (.seq
 (.reg false [2] [⟨(some 5), none, false, .mov (.t 0)⟩,
 ⟨(some 6), none, false, .un .neg (.t 5)⟩,
 ⟨(some 2), none, false, .mov (.t 6)⟩])
 .ret)
 .skip))
 (.seq
 (.reg false [2] [⟨(some 7), none, false, .mov (.t 0)⟩,
 ⟨(some 2), none, false, .mov (.t 7)⟩])
 .ret)))
theorem c137 : (Go.Proofs.Try.f137).body.bind (comp prog.P (1, (Go.Proofs.Try.f137).ntmps) lv137) = some m137 := by kernel_rfl
theorem r137 : resOK prog.P (Go.Proofs.Try.f137).results.toList = true := by kernel_rfl

end Go.Pe.Try
