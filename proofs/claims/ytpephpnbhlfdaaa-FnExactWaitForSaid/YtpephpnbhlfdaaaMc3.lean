/-
The compact code of the functions that the law reaches, printed by gen.py, each with the proof that the machine's code is compiled to it.
-/
import Derived.Test.YtpephpnbhlfdaaaMc1
import Derived.Test.YtpephpnbhlfdaaaProg
import Derived.KernelRfl
set_option maxRecDepth 100000
namespace Go.Pe.Try
open Go.Pe

/-- spec.l1Rising -/
def lv55 : List (Nat × List Nat) := [(0, [0, 1, 2]), (1, [0, 1, 2, 7]), (2, [0, 1, 2, 7, 11]), (3, [0, 1, 2, 7]), (4, [0, 1, 2, 7, 37]), (5, [6]), (6, [6])]
def m55 : MC :=
  (.seq
 (.reg false [0, 1, 2] [⟨(some 6), none, false, .mov (.k (.d (.bool false)))⟩])
 (.seq
 (.seq
 (.reg false [0, 1, 2, 7] [⟨(some 7), none, false, .mov (.k (.d (.int .i64 0)))⟩])
 (.block 0
 (.loop
 (.seq
 (.seq
 (.reg false [0, 1, 2, 7, 11] [⟨(some 8), none, false, .mov (.t 7)⟩,
 ⟨(some 9), none, false, .mov (.t 0)⟩,
 ⟨(some 10), none, false, .len false (.t 9)⟩,
 ⟨(some 11), none, false, .bin .lss (.t 8) (.t 10)⟩])
 (.cond (.t 11)
 .skip
 (.exit 0)))
 (.seq
 (.block 1
 (.seq
 (.reg true [0, 1, 2, 7, 37] [⟨(some 14), none, false, .mov (.t 0)⟩,
 ⟨(some 15), none, false, .mov (.t 7)⟩,
 ⟨(some 16), none, false, .ia 1 (.t 14) (.t 15)⟩,
 ⟨(some 17), none, false, .ld none (.t 16)⟩,
 ⟨(some 18), none, false, .mov (.t 1)⟩,
 ⟨(some 19), none, false, .mov (.t 2)⟩,
 ⟨(some 20), none, false, .callP 50 [(.t 17), (.t 18), (.t 19)]⟩,
 ⟨(some 21), none, false, .un .not (.t 20)⟩,
 ⟨(some 22), none, false, .mov (.t 21)⟩,
 ⟨(some 23), (some (22, false)), false, .mov (.t 7)⟩,
 ⟨(some 24), (some (22, false)), false, .bin .gtr (.t 23) (.k (.d (.int .i64 0)))⟩,
 ⟨(some 25), (some (22, false)), false, .mov (.t 24)⟩,
 ⟨(some 26), (some (25, true)), false, .mov (.t 0)⟩,
 ⟨(some 27), (some (25, true)), false, .mov (.t 7)⟩,
 ⟨(some 28), (some (25, true)), false, .bin .sub (.t 27) (.k (.d (.int .i64 1)))⟩,
 ⟨(some 29), (some (25, true)), false, .ia 1 (.t 26) (.t 28)⟩,
 ⟨(some 30), (some (25, true)), false, .ld none (.t 29)⟩,
 ⟨(some 31), (some (25, true)), false, .mov (.t 0)⟩,
 ⟨(some 32), (some (25, true)), false, .mov (.t 7)⟩,
 ⟨(some 33), (some (25, true)), false, .ia 1 (.t 31) (.t 32)⟩,
 ⟨(some 34), (some (25, true)), false, .ld none (.t 33)⟩,
 ⟨(some 35), (some (25, true)), false, .bin .geq (.t 30) (.t 34)⟩,
 ⟨(some 36), (some (22, false)), false, .pick (.t 25) (.t 35) (.k (.d (.bool false)))⟩,
 ⟨(some 37), none, false, .pick (.t 22) (.k (.d (.bool true))) (.t 36)⟩])
 (.cond (.t 37)
 (.seq
 (.reg false [6] [⟨(some 6), none, false, .mov (.k (.d (.bool false)))⟩])
 .ret)
 .skip)))
 (.reg false [0, 1, 2, 7] [⟨(some 12), none, false, .mov (.t 7)⟩,
 ⟨(some 13), none, false, .bin .add (.t 12) (.k (.d (.int .i64 1)))⟩,
 ⟨(some 7), none, false, .mov (.t 13)⟩]))))))
 (.seq
 (.reg false [6] [⟨(some 6), none, false, .mov (.k (.d (.bool true)))⟩])
 .ret)))
theorem c55 : (Go.Proofs.Try.f55).body.bind (comp prog.P (3, (Go.Proofs.Try.f55).ntmps) lv55) = some m55 := by kernel_rfl
theorem r55 : resOK prog.P (Go.Proofs.Try.f55).results.toList = true := by kernel_rfl

/-- impl.isDay -/
def lv56 : List (Nat × List Nat) := [(0, [0]), (1, [2])]
def m56 : MC :=
  (.seq
 (.reg false [0] [⟨(some 2), none, false, .mov (.k (.d (.bool false)))⟩])
 (.seq
 (.reg false [2] [⟨(some 3), none, false, .mov (.t 0)⟩,
 ⟨(some 4), none, true, .call 51 [(.t 3), (.k (.d (.int .i64 0))), (.k (.d (.int .i64 20000)))]⟩,
 ⟨(some 2), none, false, .mov (.t 4)⟩])
 .ret))
theorem c56 : (Go.Proofs.Try.f56).body.bind (comp prog.P (1, (Go.Proofs.Try.f56).ntmps) lv56) = some m56 := by kernel_rfl
theorem r56 : resOK prog.P (Go.Proofs.Try.f56).results.toList = true := by kernel_rfl

/-- impl.areRising -/
def lv57 : List (Nat × List Nat) := [(0, [0]), (1, [0, 3]), (2, [0, 3, 7]), (3, [0, 3]), (4, [0, 3, 19]), (5, [2]), (6, [2])]
def m57 : MC :=
  (.seq
 (.reg false [0] [⟨(some 2), none, false, .mov (.k (.d (.bool false)))⟩])
 (.seq
 (.seq
 (.reg false [0, 3] [⟨(some 3), none, false, .mov (.k (.d (.int .i64 1)))⟩])
 (.block 0
 (.loop
 (.seq
 (.seq
 (.reg false [0, 3, 7] [⟨(some 4), none, false, .mov (.t 3)⟩,
 ⟨(some 5), none, false, .mov (.t 0)⟩,
 ⟨(some 6), none, false, .len false (.t 5)⟩,
 ⟨(some 7), none, false, .bin .lss (.t 4) (.t 6)⟩])
 (.cond (.t 7)
 .skip
 (.exit 0)))
 (.seq
 (.block 1
 (.seq
 (.reg true [0, 3, 19] [⟨(some 10), none, false, .mov (.t 0)⟩,
 ⟨(some 11), none, false, .mov (.t 3)⟩,
 ⟨(some 12), none, false, .bin .sub (.t 11) (.k (.d (.int .i64 1)))⟩,
 ⟨(some 13), none, false, .ia 1 (.t 10) (.t 12)⟩,
 ⟨(some 14), none, false, .ld none (.t 13)⟩,
 ⟨(some 15), none, false, .mov (.t 0)⟩,
 ⟨(some 16), none, false, .mov (.t 3)⟩,
 ⟨(some 17), none, false, .ia 1 (.t 15) (.t 16)⟩,
 ⟨(some 18), none, false, .ld none (.t 17)⟩,
 ⟨(some 19), none, false, .bin .geq (.t 14) (.t 18)⟩])
 (.cond (.t 19)
 (.seq
 (.reg false [2] [⟨(some 2), none, false, .mov (.k (.d (.bool false)))⟩])
 .ret)
 .skip)))
 (.reg false [0, 3] [⟨(some 8), none, false, .mov (.t 3)⟩,
 ⟨(some 9), none, false, .bin .add (.t 8) (.k (.d (.int .i64 1)))⟩,
 ⟨(some 3), none, false, .mov (.t 9)⟩]))))))
 (.seq
 (.reg false [2] [⟨(some 2), none, false, .mov (.k (.d (.bool true)))⟩])
 .ret)))
theorem c57 : (Go.Proofs.Try.f57).body.bind (comp prog.P (1, (Go.Proofs.Try.f57).ntmps) lv57) = some m57 := by kernel_rfl
theorem r57 : resOK prog.P (Go.Proofs.Try.f57).results.toList = true := by kernel_rfl

/-- slices.ContainsFunc[[]int,int] -/
def lv58 : List (Nat × List Nat) := [(0, [0, 1]), (1, [4])]
def m58 : MC :=
  (.seq
 (.reg false [0, 1] [⟨(some 4), none, false, .mov (.k (.d (.bool false)))⟩])
 (.seq
 (.reg false [4] [⟨(some 5), none, false, .mov (.t 0)⟩,
 ⟨(some 6), none, false, .mov (.t 1)⟩,
 ⟨(some 7), none, true, .call 75 [(.t 5), (.t 6)]⟩,
 ⟨(some 8), none, false, .bin .geq (.t 7) (.k (.d (.int .i64 0)))⟩,
 ⟨(some 4), none, false, .mov (.t 8)⟩])
 .ret))
theorem c58 : (Go.Proofs.Try.f58).body.bind (comp prog.P (2, (Go.Proofs.Try.f58).ntmps) lv58) = some m58 := by kernel_rfl
theorem r58 : resOK prog.P (Go.Proofs.Try.f58).results.toList = true := by kernel_rfl

/-- impl.IsAppeal$1 -/
def lv59 : List (Nat × List Nat) := [(0, [0]), (1, [2])]
def m59 : MC :=
  (.seq
 (.reg false [0] [⟨(some 2), none, false, .mov (.k (.d (.bool false)))⟩])
 (.seq
 (.reg false [2] [⟨(some 3), none, false, .mov (.t 0)⟩,
 ⟨(some 4), none, true, .call 31 [(.t 3)]⟩,
 ⟨(some 5), none, false, .un .not (.t 4)⟩,
 ⟨(some 2), none, false, .mov (.t 5)⟩])
 .ret))
theorem c59 : (Go.Proofs.Try.f59).body.bind (comp prog.P (1, (Go.Proofs.Try.f59).ntmps) lv59) = some m59 := by kernel_rfl
theorem r59 : resOK prog.P (Go.Proofs.Try.f59).results.toList = true := by kernel_rfl
theorem en59 : enterOK prog.P 59 = true := by kernel_rfl

/-- impl.IsAppeal$2 -/
def lv60 : List (Nat × List Nat) := [(0, [0, 1]), (1, [3])]
def m60 : MC :=
  (.seq
 (.reg false [0, 1] [⟨(some 3), none, false, .mov (.k (.d (.bool false)))⟩])
 (.seq
 (.reg false [3] [⟨(some 4), none, false, .fa 3 3 (.t 1)⟩,
 ⟨(some 5), none, false, .ld none (.t 4)⟩,
 ⟨(some 6), none, false, .mov (.t 0)⟩,
 ⟨(some 7), none, true, .call 45 [(.t 5), (.t 6)]⟩,
 ⟨(some 8), none, false, .un .not (.t 7)⟩,
 ⟨(some 3), none, false, .mov (.t 8)⟩])
 .ret))
theorem c60 : (Go.Proofs.Try.f60).body.bind (comp prog.P (2, (Go.Proofs.Try.f60).ntmps) lv60) = some m60 := by kernel_rfl
theorem r60 : resOK prog.P (Go.Proofs.Try.f60).results.toList = true := by kernel_rfl
theorem en60 : enterOK prog.P 60 = true := by kernel_rfl

/-- slices.Index[[]int,int] -/
def lv61 : List (Nat × List Nat) := [(0, [0, 1]), (1, [0, 1, 7, 8]), (2, [0, 1, 7, 8, 9]), (3, [0, 1, 5, 7, 8]), (4, [0, 1, 5, 7, 8, 16]), (5, [4]), (6, [0, 1, 7, 8]), (7, [4])]
def m61 : MC :=
  (.seq
 (.reg false [0, 1] [⟨(some 4), none, false, .mov (.k (.d (.int .i64 0)))⟩])
 (.seq
 (.seq
 (.reg false [0, 1, 7, 8] [⟨(some 6), none, false, .mov (.t 0)⟩,
 ⟨(some 7), none, false, .len false (.t 6)⟩,
 ⟨(some 8), none, false, .mov (.k (.d (.int .i64 0)))⟩])
 (.block 0
 (.loop
 (.seq
 (.reg false [0, 1, 7, 8, 9] [⟨(some 9), none, false, .bin .lss (.t 8) (.t 7)⟩])
 (.seq
 (.cond (.t 9)
 .skip
 (.exit 0))
 (.seq
 (.block 1
 (.seq
 (.reg false [0, 1, 5, 7, 8] [⟨(some 10), none, false, .mov (.t 8)⟩,
 ⟨(some 5), none, false, .mov (.t 10)⟩])
 (.seq
 (.reg false [0, 1, 5, 7, 8, 16] [⟨(some 11), none, false, .mov (.t 1)⟩,
 ⟨(some 12), none, false, .mov (.t 0)⟩,
 ⟨(some 13), none, false, .mov (.t 5)⟩,
 ⟨(some 14), none, false, .ia 1 (.t 12) (.t 13)⟩,
 ⟨(some 15), none, false, .ld none (.t 14)⟩,
 ⟨(some 16), none, false, .bin .eql (.t 11) (.t 15)⟩])
 (.cond (.t 16)
 (.seq
 (.reg false [4] [⟨(some 17), none, false, .mov (.t 5)⟩,
 ⟨(some 4), none, false, .mov (.t 17)⟩])
 .ret)
 .skip))))
 (.reg false [0, 1, 7, 8] [⟨(some 18), none, false, .bin .add (.t 8) (.k (.d (.int .i64 1)))⟩,
 ⟨(some 8), none, false, .mov (.t 18)⟩])))))))
 (.seq
 (.reg false [4] [⟨(some 4), none, false, .mov (.k (.d (.int .i64 (-1))))⟩])
 .ret)))
theorem c61 : (Go.Proofs.Try.f61).body.bind (comp prog.P (2, (Go.Proofs.Try.f61).ntmps) lv61) = some m61 := by kernel_rfl
theorem r61 : resOK prog.P (Go.Proofs.Try.f61).results.toList = true := by kernel_rfl

/-- slices.insertionSortOrdered[int] -/
def lv62 : List (Nat × List Nat) := [(0, [0, 1, 2, 6]), (1, [0, 1, 2, 6, 12]), (2, [0, 1, 2, 6]), (3, [0, 1, 2, 6, 7]), (4, [0, 1, 2, 6, 7, 30]), (5, [0, 1, 2, 6, 7]), (6, [0, 1, 2, 6, 7]), (1000006, [3, 15, 16, 17, 1, 0, 1, 1, 1, 2, 1, 3, 1, 4, 1, 5, 1, 6, 1, 7, 1, 8, 1, 9, 1, 10, 1, 11, 1, 12, 1, 13, 1, 14, 2, 15, 2, 16, 2, 17, 0])]
def m62 : MC :=
  (.seq
 (.reg false [0, 1, 2, 6] [⟨(some 8), none, false, .mov (.t 1)⟩,
 ⟨(some 9), none, false, .bin .add (.t 8) (.k (.d (.int .i64 1)))⟩,
 ⟨(some 6), none, false, .mov (.t 9)⟩])
 (.block 0
 (.loop
 (.seq
 (.seq
 (.reg false [0, 1, 2, 6, 12] [⟨(some 10), none, false, .mov (.t 6)⟩,
 ⟨(some 11), none, false, .mov (.t 2)⟩,
 ⟨(some 12), none, false, .bin .lss (.t 10) (.t 11)⟩])
 (.cond (.t 12)
 .skip
 (.exit 0)))
 (.seq
 (.block 1
 (.seq
 (.reg false [0, 1, 2, 6, 7] [⟨(some 15), none, false, .mov (.t 6)⟩,
 ⟨(some 7), none, false, .mov (.t 15)⟩])
 (.block 2
 (.loop
 (.seq
 (.seq
 (.reg true [0, 1, 2, 6, 7, 30] [⟨(some 16), none, false, .mov (.t 7)⟩,
 ⟨(some 17), none, false, .mov (.t 1)⟩,
 ⟨(some 18), none, false, .bin .gtr (.t 16) (.t 17)⟩,
 ⟨(some 19), none, false, .mov (.t 18)⟩,
 ⟨(some 20), (some (19, true)), false, .mov (.t 0)⟩,
 ⟨(some 21), (some (19, true)), false, .mov (.t 7)⟩,
 ⟨(some 22), (some (19, true)), false, .ia 1 (.t 20) (.t 21)⟩,
 ⟨(some 23), (some (19, true)), false, .ld none (.t 22)⟩,
 ⟨(some 24), (some (19, true)), false, .mov (.t 0)⟩,
 ⟨(some 25), (some (19, true)), false, .mov (.t 7)⟩,
 ⟨(some 26), (some (19, true)), false, .bin .sub (.t 25) (.k (.d (.int .i64 1)))⟩,
 ⟨(some 27), (some (19, true)), false, .ia 1 (.t 24) (.t 26)⟩,
 ⟨(some 28), (some (19, true)), false, .ld none (.t 27)⟩,
 ⟨(some 29), (some (19, true)), false, .callP 68 [(.t 23), (.t 28)]⟩,
 ⟨(some 30), none, false, .pick (.t 19) (.t 29) (.k (.d (.bool false)))⟩])
 (.cond (.t 30)
 .skip
 (.exit 2)))
 (.seq
 (.block 3
 (.any [15, 16, 17] [0, 1, 2, 6, 7] (.q 0 ⟨(some 33), none, false, .mov (.t 0)⟩ (.q 1 ⟨(some 34), none, false, .mov (.t 7)⟩ (.q 2 ⟨(some 35), none, false, .mov (.t 0)⟩ (.q 3 ⟨(some 36), none, false, .mov (.t 7)⟩ (.q 4 ⟨(some 37), none, false, .bin .sub (.t 36) (.k (.d (.int .i64 1)))⟩ (.q 5 ⟨(some 38), none, false, .mov (.t 0)⟩ (.q 6 ⟨(some 39), none, false, .mov (.t 7)⟩ (.q 7 ⟨(some 40), none, false, .bin .sub (.t 39) (.k (.d (.int .i64 1)))⟩ (.q 8 ⟨(some 41), none, false, .ia 1 (.t 38) (.t 40)⟩ (.q 9 ⟨(some 42), none, false, .ld none (.t 41)⟩ (.q 10 ⟨(some 43), none, false, .mov (.t 0)⟩ (.q 11 ⟨(some 44), none, false, .mov (.t 7)⟩ (.q 12 ⟨(some 45), none, false, .ia 1 (.t 43) (.t 44)⟩ (.q 13 ⟨(some 46), none, false, .ld none (.t 45)⟩ (.q 14 ⟨(some 47), none, false, .ia 1 (.t 33) (.t 34)⟩ (.e 15 ⟨none, none, true, .st 1 (.t 47) (.t 42)⟩ (.e 16 ⟨(some 48), none, false, .ia 1 (.t 35) (.t 37)⟩ (.e 17 ⟨none, none, true, .st 1 (.t 48) (.t 46)⟩ .done))))))))))))))))))))
 (.reg false [0, 1, 2, 6, 7] [⟨(some 31), none, false, .mov (.t 7)⟩,
 ⟨(some 32), none, false, .bin .sub (.t 31) (.k (.d (.int .i64 1)))⟩,
 ⟨(some 7), none, false, .mov (.t 32)⟩])))))))
 (.reg false [0, 1, 2, 6] [⟨(some 13), none, false, .mov (.t 6)⟩,
 ⟨(some 14), none, false, .bin .add (.t 13) (.k (.d (.int .i64 1)))⟩,
 ⟨(some 6), none, false, .mov (.t 14)⟩]))))))
theorem c62 : (Go.Proofs.Try.f62).body.bind (comp prog.P (3, (Go.Proofs.Try.f62).ntmps) lv62) = some m62 := by kernel_rfl
theorem r62 : resOK prog.P (Go.Proofs.Try.f62).results.toList = true := by kernel_rfl

/-- cmp.Less[int] -/
def lv68 : List (Nat × List Nat) := [(0, [0, 1]), (1, [4])]
def m68 : MC :=
  (.seq
 (.reg false [0, 1] [⟨(some 4), none, false, .mov (.k (.d (.bool false)))⟩])
 (.seq
 (.reg false [4] [⟨(some 5), none, false, .mov (.t 0)⟩,
 ⟨(some 6), none, true, .call 53 [(.t 5)]⟩,
 ⟨(some 7), none, false, .mov (.t 6)⟩,
 ⟨(some 8), (some (7, true)), false, .mov (.t 1)⟩,
 ⟨(some 9), (some (7, true)), true, .call 53 [(.t 8)]⟩,
 ⟨(some 10), (some (7, true)), false, .un .not (.t 9)⟩,
 ⟨(some 11), none, false, .pick (.t 7) (.t 10) (.k (.d (.bool false)))⟩,
 ⟨(some 12), none, false, .mov (.t 11)⟩,
 ⟨(some 13), (some (12, false)), false, .mov (.t 0)⟩,
 ⟨(some 14), (some (12, false)), false, .mov (.t 1)⟩,
 ⟨(some 15), (some (12, false)), false, .bin .lss (.t 13) (.t 14)⟩,
 ⟨(some 16), none, false, .pick (.t 12) (.k (.d (.bool true))) (.t 15)⟩,
 ⟨(some 4), none, false, .mov (.t 16)⟩])
 .ret))
theorem c68 : (Go.Proofs.Try.f68).body.bind (comp prog.P (2, (Go.Proofs.Try.f68).ntmps) lv68) = some m68 := by kernel_rfl
theorem r68 : resOK prog.P (Go.Proofs.Try.f68).results.toList = true := by kernel_rfl

/-- bits.Len64 -/
def lv72 : List (Nat × List Nat) := [(0, [0, 2]), (1, [0, 2, 4]), (2, [0]), (3, [0, 2]), (4, [0, 2, 8]), (5, [0, 2]), (6, [0, 2]), (7, [0, 2, 14]), (8, [0, 2]), (9, [0, 2]), (10, [2])]
def m72 : MC :=
  (.seq
 (.reg false [0, 2] [⟨(some 2), none, false, .mov (.k (.d (.int .i64 0)))⟩])
 (.seq
 (.seq
 (.reg false [0, 2, 4] [⟨(some 3), none, false, .mov (.t 0)⟩,
 ⟨(some 4), none, false, .bin .geq (.t 3) (.k (.d (.int .u64 4294967296)))⟩])
 (.cond (.t 4)
 (.seq
 (.reg false [0] [⟨(some 5), none, false, .mov (.t 0)⟩,
 ⟨(some 6), none, false, .shr (.t 5) (.k (.d (.int .u64 32)))⟩,
 ⟨(some 0), none, false, .mov (.t 6)⟩])
 (.reg false [0, 2] [⟨(some 2), none, false, .mov (.k (.d (.int .i64 32)))⟩]))
 .skip))
 (.seq
 (.seq
 (.reg false [0, 2, 8] [⟨(some 7), none, false, .mov (.t 0)⟩,
 ⟨(some 8), none, false, .bin .geq (.t 7) (.k (.d (.int .u64 65536)))⟩])
 (.cond (.t 8)
 (.seq
 (.reg false [0, 2] [⟨(some 9), none, false, .mov (.t 0)⟩,
 ⟨(some 10), none, false, .shr (.t 9) (.k (.d (.int .u64 16)))⟩,
 ⟨(some 0), none, false, .mov (.t 10)⟩])
 (.reg false [0, 2] [⟨(some 11), none, false, .mov (.t 2)⟩,
 ⟨(some 12), none, false, .bin .add (.t 11) (.k (.d (.int .i64 16)))⟩,
 ⟨(some 2), none, false, .mov (.t 12)⟩]))
 .skip))
 (.seq
 (.seq
 (.reg false [0, 2, 14] [⟨(some 13), none, false, .mov (.t 0)⟩,
 ⟨(some 14), none, false, .bin .geq (.t 13) (.k (.d (.int .u64 256)))⟩])
 (.cond (.t 14)
 (.seq
 (.reg false [0, 2] [⟨(some 15), none, false, .mov (.t 0)⟩,
 ⟨(some 16), none, false, .shr (.t 15) (.k (.d (.int .u64 8)))⟩,
 ⟨(some 0), none, false, .mov (.t 16)⟩])
 (.reg false [0, 2] [⟨(some 17), none, false, .mov (.t 2)⟩,
 ⟨(some 18), none, false, .bin .add (.t 17) (.k (.d (.int .i64 8)))⟩,
 ⟨(some 2), none, false, .mov (.t 18)⟩]))
 .skip))
 (.seq
 (.reg false [2] [⟨(some 19), none, false, .mov (.t 2)⟩,
 ⟨(some 20), none, false, .mov (.t 0)⟩,
 ⟨(some 21), none, false, .conv .u8 (.t 20)⟩,
 ⟨(some 22), none, false, .ix (.k (.d (.str [0, 1, 2, 2, 3, 3, 3, 3, 4, 4, 4, 4, 4, 4, 4, 4, 5, 5, 5, 5, 5, 5, 5, 5, 5, 5, 5, 5, 5, 5, 5, 5, 6, 6, 6, 6, 6, 6, 6, 6, 6, 6, 6, 6, 6, 6, 6, 6, 6, 6, 6, 6, 6, 6, 6, 6, 6, 6, 6, 6, 6, 6, 6, 6, 7, 7, 7, 7, 7, 7, 7, 7, 7, 7, 7, 7, 7, 7, 7, 7, 7, 7, 7, 7, 7, 7, 7, 7, 7, 7, 7, 7, 7, 7, 7, 7, 7, 7, 7, 7, 7, 7, 7, 7, 7, 7, 7, 7, 7, 7, 7, 7, 7, 7, 7, 7, 7, 7, 7, 7, 7, 7, 7, 7, 7, 7, 7, 7, 8, 8, 8, 8, 8, 8, 8, 8, 8, 8, 8, 8, 8, 8, 8, 8, 8, 8, 8, 8, 8, 8, 8, 8, 8, 8, 8, 8, 8, 8, 8, 8, 8, 8, 8, 8, 8, 8, 8, 8, 8, 8, 8, 8, 8, 8, 8, 8, 8, 8, 8, 8, 8, 8, 8, 8, 8, 8, 8, 8, 8, 8, 8, 8, 8, 8, 8, 8, 8, 8, 8, 8, 8, 8, 8, 8, 8, 8, 8, 8, 8, 8, 8, 8, 8, 8, 8, 8, 8, 8, 8, 8, 8, 8, 8, 8, 8, 8, 8, 8, 8, 8, 8, 8, 8, 8, 8, 8, 8, 8, 8, 8, 8, 8, 8, 8, 8, 8, 8, 8, 8, 8, 8, 8, 8, 8, 8, 8]))) (.t 21)⟩,
 ⟨(some 23), none, false, .conv .i64 (.t 22)⟩,
 ⟨(some 24), none, false, .bin .add (.t 19) (.t 23)⟩,
 ⟨(some 2), none, false, .mov (.t 24)⟩])
 .ret)))))
theorem c72 : (Go.Proofs.Try.f72).body.bind (comp prog.P (0, (Go.Proofs.Try.f72).ntmps) lv72) = some m72 := by kernel_rfl
theorem r72 : resOK prog.P (Go.Proofs.Try.f72).results.toList = true := by kernel_rfl

/-- slices.insertionSortCmpFunc[impl.Appeal] -/
def lv73 : List (Nat × List Nat) := [(0, [0, 1, 2, 3, 8]), (1, [0, 1, 2, 3, 8, 14]), (2, [0, 1, 2, 3, 8]), (3, [0, 1, 2, 3, 8, 9]), (4, [0, 1, 2, 3, 8, 9, 34]), (5, [0, 1, 2, 3, 8, 9]), (6, [0, 1, 2, 3, 8, 9]), (1000006, [3, 15, 16, 17, 1, 0, 1, 1, 1, 2, 1, 3, 1, 4, 1, 5, 1, 6, 1, 7, 1, 8, 1, 9, 1, 10, 1, 11, 1, 12, 1, 13, 1, 14, 2, 15, 2, 16, 2, 17, 0])]
def m73 : MC :=
  (.seq
 (.reg false [0, 1, 2, 3, 8] [⟨(some 10), none, false, .mov (.t 1)⟩,
 ⟨(some 11), none, false, .bin .add (.t 10) (.k (.d (.int .i64 1)))⟩,
 ⟨(some 8), none, false, .mov (.t 11)⟩])
 (.block 0
 (.loop
 (.seq
 (.seq
 (.reg false [0, 1, 2, 3, 8, 14] [⟨(some 12), none, false, .mov (.t 8)⟩,
 ⟨(some 13), none, false, .mov (.t 2)⟩,
 ⟨(some 14), none, false, .bin .lss (.t 12) (.t 13)⟩])
 (.cond (.t 14)
 .skip
 (.exit 0)))
 (.seq
 (.block 1
 (.seq
 (.reg false [0, 1, 2, 3, 8, 9] [⟨(some 17), none, false, .mov (.t 8)⟩,
 ⟨(some 9), none, false, .mov (.t 17)⟩])
 (.block 2
 (.loop
 (.seq
 (.seq
 (.reg true [0, 1, 2, 3, 8, 9, 34] [⟨(some 18), none, false, .mov (.t 9)⟩,
 ⟨(some 19), none, false, .mov (.t 1)⟩,
 ⟨(some 20), none, false, .bin .gtr (.t 18) (.t 19)⟩,
 ⟨(some 21), none, false, .mov (.t 20)⟩,
 ⟨(some 22), (some (21, true)), false, .mov (.t 3)⟩,
 ⟨(some 23), (some (21, true)), false, .mov (.t 0)⟩,
 ⟨(some 24), (some (21, true)), false, .mov (.t 9)⟩,
 ⟨(some 25), (some (21, true)), false, .ia 6 (.t 23) (.t 24)⟩,
 ⟨(some 26), (some (21, true)), false, .ld (some 6) (.t 25)⟩,
 ⟨(some 27), (some (21, true)), false, .mov (.t 0)⟩,
 ⟨(some 28), (some (21, true)), false, .mov (.t 9)⟩,
 ⟨(some 29), (some (21, true)), false, .bin .sub (.t 28) (.k (.d (.int .i64 1)))⟩,
 ⟨(some 30), (some (21, true)), false, .ia 6 (.t 27) (.t 29)⟩,
 ⟨(some 31), (some (21, true)), false, .ld (some 6) (.t 30)⟩,
 ⟨(some 32), (some (21, true)), false, .callV (.t 22) [(.t 26), (.t 31)]⟩,
 ⟨(some 33), (some (21, true)), false, .bin .lss (.t 32) (.k (.d (.int .i64 0)))⟩,
 ⟨(some 34), none, false, .pick (.t 21) (.t 33) (.k (.d (.bool false)))⟩])
 (.cond (.t 34)
 .skip
 (.exit 2)))
 (.seq
 (.block 3
 (.any [15, 16, 17] [0, 1, 2, 3, 8, 9] (.q 0 ⟨(some 37), none, false, .mov (.t 0)⟩ (.q 1 ⟨(some 38), none, false, .mov (.t 9)⟩ (.q 2 ⟨(some 39), none, false, .mov (.t 0)⟩ (.q 3 ⟨(some 40), none, false, .mov (.t 9)⟩ (.q 4 ⟨(some 41), none, false, .bin .sub (.t 40) (.k (.d (.int .i64 1)))⟩ (.q 5 ⟨(some 42), none, false, .mov (.t 0)⟩ (.q 6 ⟨(some 43), none, false, .mov (.t 9)⟩ (.q 7 ⟨(some 44), none, false, .bin .sub (.t 43) (.k (.d (.int .i64 1)))⟩ (.q 8 ⟨(some 45), none, false, .ia 6 (.t 42) (.t 44)⟩ (.q 9 ⟨(some 46), none, false, .ld (some 6) (.t 45)⟩ (.q 10 ⟨(some 47), none, false, .mov (.t 0)⟩ (.q 11 ⟨(some 48), none, false, .mov (.t 9)⟩ (.q 12 ⟨(some 49), none, false, .ia 6 (.t 47) (.t 48)⟩ (.q 13 ⟨(some 50), none, false, .ld (some 6) (.t 49)⟩ (.q 14 ⟨(some 51), none, false, .ia 6 (.t 37) (.t 38)⟩ (.e 15 ⟨none, none, true, .st 6 (.t 51) (.t 46)⟩ (.e 16 ⟨(some 52), none, false, .ia 6 (.t 39) (.t 41)⟩ (.e 17 ⟨none, none, true, .st 6 (.t 52) (.t 50)⟩ .done))))))))))))))))))))
 (.reg false [0, 1, 2, 3, 8, 9] [⟨(some 35), none, false, .mov (.t 9)⟩,
 ⟨(some 36), none, false, .bin .sub (.t 35) (.k (.d (.int .i64 1)))⟩,
 ⟨(some 9), none, false, .mov (.t 36)⟩])))))))
 (.reg false [0, 1, 2, 3, 8] [⟨(some 15), none, false, .mov (.t 8)⟩,
 ⟨(some 16), none, false, .bin .add (.t 15) (.k (.d (.int .i64 1)))⟩,
 ⟨(some 8), none, false, .mov (.t 16)⟩]))))))
theorem c73 : (Go.Proofs.Try.f73).body.bind (comp prog.P (4, (Go.Proofs.Try.f73).ntmps) lv73) = some m73 := by kernel_rfl
theorem r73 : resOK prog.P (Go.Proofs.Try.f73).results.toList = true := by kernel_rfl

/-- slices.IndexFunc[[]int,int] -/
def lv75 : List (Nat × List Nat) := [(0, [0, 1]), (1, [0, 1, 7, 8]), (2, [0, 1, 7, 8, 9]), (3, [0, 1, 5, 7, 8]), (4, [0, 1, 5, 7, 8, 16]), (5, [4]), (6, [0, 1, 7, 8]), (7, [4])]
def m75 : MC :=
  (.seq
 (.reg false [0, 1] [⟨(some 4), none, false, .mov (.k (.d (.int .i64 0)))⟩])
 (.seq
 (.seq
 (.reg false [0, 1, 7, 8] [⟨(some 6), none, false, .mov (.t 0)⟩,
 ⟨(some 7), none, false, .len false (.t 6)⟩,
 ⟨(some 8), none, false, .mov (.k (.d (.int .i64 0)))⟩])
 (.block 0
 (.loop
 (.seq
 (.reg false [0, 1, 7, 8, 9] [⟨(some 9), none, false, .bin .lss (.t 8) (.t 7)⟩])
 (.seq
 (.cond (.t 9)
 .skip
 (.exit 0))
 (.seq
 (.block 1
 (.seq
 (.reg false [0, 1, 5, 7, 8] [⟨(some 10), none, false, .mov (.t 8)⟩,
 ⟨(some 5), none, false, .mov (.t 10)⟩])
 (.seq
 (.reg false [0, 1, 5, 7, 8, 16] [⟨(some 11), none, false, .mov (.t 1)⟩,
 ⟨(some 12), none, false, .mov (.t 0)⟩,
 ⟨(some 13), none, false, .mov (.t 5)⟩,
 ⟨(some 14), none, false, .ia 1 (.t 12) (.t 13)⟩,
 ⟨(some 15), none, false, .ld none (.t 14)⟩,
 ⟨(some 16), none, true, .callW (.t 11) [(.t 15)]⟩])
 (.cond (.t 16)
 (.seq
 (.reg false [4] [⟨(some 17), none, false, .mov (.t 5)⟩,
 ⟨(some 4), none, false, .mov (.t 17)⟩])
 .ret)
 .skip))))
 (.reg false [0, 1, 7, 8] [⟨(some 18), none, false, .bin .add (.t 8) (.k (.d (.int .i64 1)))⟩,
 ⟨(some 8), none, false, .mov (.t 18)⟩])))))))
 (.seq
 (.reg false [4] [⟨(some 4), none, false, .mov (.k (.d (.int .i64 (-1))))⟩])
 .ret)))
theorem c75 : (Go.Proofs.Try.f75).body.bind (comp prog.P (2, (Go.Proofs.Try.f75).ntmps) lv75) = some m75 := by kernel_rfl
theorem r75 : resOK prog.P (Go.Proofs.Try.f75).results.toList = true := by kernel_rfl

end Go.Pe.Try
