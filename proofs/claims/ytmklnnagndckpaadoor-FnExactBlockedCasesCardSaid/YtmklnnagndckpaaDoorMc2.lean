/-
The compact code of the functions that the law reaches, printed by gen.py, each with the proof that the machine's code is compiled to it.
-/
import Derived.Test.YtmklnnagndckpaaDoorMc1
import Derived.Test.YtmklnnagndckpaaDoorProg
import Derived.KernelRfl
set_option maxRecDepth 100000
namespace Go.Pe.Tryd
open Go.Pe

/-- impl.BlockedCases$1 -/
def lv43 : List (Nat × List Nat) := [(0, [1, 2]), (1, [3])]
def m43 : MC :=
  (.seq
 (.reg false [1, 2] [⟨(some 2), none, true, .box (.t 0)⟩,
 ⟨(some 3), none, false, .mov (.k (.d (.bool false)))⟩])
 (.seq
 (.reg false [3] [⟨(some 4), none, false, .fa 2 2 (.t 2)⟩,
 ⟨(some 5), none, false, .ld none (.t 4)⟩,
 ⟨(some 6), none, false, .fa 0 0 (.t 1)⟩,
 ⟨(some 7), none, false, .ld none (.t 6)⟩,
 ⟨(some 8), none, false, .bin .leq (.t 5) (.t 7)⟩,
 ⟨(some 9), none, false, .mov (.t 8)⟩,
 ⟨(some 10), (some (9, true)), false, .fa 1 1 (.t 2)⟩,
 ⟨(some 11), (some (9, true)), false, .ld none (.t 10)⟩,
 ⟨(some 12), (some (9, true)), false, .bin .eql (.t 11) (.k (.d (.int .i64 3)))⟩,
 ⟨(some 13), none, false, .pick (.t 9) (.t 12) (.k (.d (.bool false)))⟩,
 ⟨(some 14), none, false, .mov (.t 13)⟩,
 ⟨(some 15), (some (14, true)), false, .fa 3 3 (.t 2)⟩,
 ⟨(some 16), (some (14, true)), false, .ld none (.t 15)⟩,
 ⟨(some 17), (some (14, true)), false, .len false (.t 16)⟩,
 ⟨(some 18), (some (14, true)), false, .bin .gtr (.t 17) (.k (.d (.int .i64 0)))⟩,
 ⟨(some 19), none, false, .pick (.t 14) (.t 18) (.k (.d (.bool false)))⟩,
 ⟨(some 3), none, false, .mov (.t 19)⟩])
 .ret))
theorem c43 : (Go.Proofs.Tryd.f43).body.bind (comp prog.P (2, (Go.Proofs.Tryd.f43).ntmps) lv43) = some m43 := by kernel_rfl
theorem r43 : resOK prog.P (Go.Proofs.Tryd.f43).results.toList = true := by kernel_rfl
theorem en43 : enterOK prog.P 43 = true := by kernel_rfl

/-- spec.l1In -/
def lv44 : List (Nat × List Nat) := [(0, [0, 1, 2]), (1, [6])]
def m44 : MC :=
  (.seq
 (.reg false [0, 1, 2] [⟨(some 6), none, false, .mov (.k (.d (.bool false)))⟩])
 (.seq
 (.reg false [6] [⟨(some 7), none, false, .mov (.t 0)⟩,
 ⟨(some 8), none, false, .mov (.t 1)⟩,
 ⟨(some 9), none, false, .bin .geq (.t 7) (.t 8)⟩,
 ⟨(some 10), none, false, .mov (.t 9)⟩,
 ⟨(some 11), (some (10, true)), false, .mov (.t 0)⟩,
 ⟨(some 12), (some (10, true)), false, .mov (.t 2)⟩,
 ⟨(some 13), (some (10, true)), false, .bin .leq (.t 11) (.t 12)⟩,
 ⟨(some 14), none, false, .pick (.t 10) (.t 13) (.k (.d (.bool false)))⟩,
 ⟨(some 6), none, false, .mov (.t 14)⟩])
 .ret))
theorem c44 : (Go.Proofs.Tryd.f44).body.bind (comp prog.P (3, (Go.Proofs.Tryd.f44).ntmps) lv44) = some m44 := by kernel_rfl
theorem r44 : resOK prog.P (Go.Proofs.Tryd.f44).results.toList = true := by kernel_rfl

/-- impl.isHoldNumber -/
def lv46 : List (Nat × List Nat) := [(0, [0]), (1, [2])]
def m46 : MC :=
  (.seq
 (.reg false [0] [⟨(some 2), none, false, .mov (.k (.d (.bool false)))⟩])
 (.seq
 (.reg false [2] [⟨(some 3), none, false, .mov (.t 0)⟩,
 ⟨(some 4), none, true, .call 34 [(.t 3), (.k (.d (.int .i64 1))), (.k (.d (.int .i64 9)))]⟩,
 ⟨(some 2), none, false, .mov (.t 4)⟩])
 .ret))
theorem c46 : (Go.Proofs.Tryd.f46).body.bind (comp prog.P (1, (Go.Proofs.Tryd.f46).ntmps) lv46) = some m46 := by kernel_rfl
theorem r46 : resOK prog.P (Go.Proofs.Tryd.f46).results.toList = true := by kernel_rfl

/-- laws.szCase -/
def lv55 : List (Nat × List Nat) := [(0, [1, 2]), (1, [1]), (2, [1, 10]), (3, [4]), (4, [4])]
def m55 : MC :=
  (.seq
 (.reg false [1, 2] [⟨(some 2), none, true, .box (.t 0)⟩,
 ⟨(some 4), none, false, .mov (.k (.d (.int .i64 0)))⟩])
 (.seq
 (.reg false [1] [⟨(some 5), none, false, .fa 3 3 (.t 2)⟩,
 ⟨(some 6), none, false, .ld none (.t 5)⟩,
 ⟨(some 7), none, false, .mov (.t 1)⟩,
 ⟨(some 8), none, true, .call 80 [(.t 6), (.t 7)]⟩,
 ⟨(some 1), none, false, .mov (.t 8)⟩])
 (.seq
 (.seq
 (.reg false [1, 10] [⟨(some 9), none, false, .mov (.t 1)⟩,
 ⟨(some 10), none, false, .bin .lss (.t 9) (.k (.d (.int .i64 0)))⟩])
 (.cond (.t 10)
 (.seq
 (.reg false [4] [⟨(some 4), none, false, .mov (.k (.d (.int .i64 (-1))))⟩])
 .ret)
 .skip))
 (.seq
 (.reg false [4] [⟨(some 11), none, false, .mov (.t 1)⟩,
 ⟨(some 4), none, false, .mov (.t 11)⟩])
 .ret))))
theorem c55 : (Go.Proofs.Tryd.f55).body.bind (comp prog.P (1, (Go.Proofs.Tryd.f55).ntmps) lv55) = some m55 := by kernel_rfl
theorem r55 : resOK prog.P (Go.Proofs.Tryd.f55).results.toList = true := by kernel_rfl

/-- spec.l2Day -/
def lv56 : List (Nat × List Nat) := [(0, [0]), (1, [2])]
def m56 : MC :=
  (.seq
 (.reg false [0] [⟨(some 2), none, false, .mov (.k (.d (.bool false)))⟩])
 (.seq
 (.reg false [2] [⟨(some 3), none, false, .mov (.t 0)⟩,
 ⟨(some 4), none, true, .call 44 [(.t 3), (.k (.d (.int .i64 0))), (.k (.d (.int .i64 20000)))]⟩,
 ⟨(some 2), none, false, .mov (.t 4)⟩])
 .ret))
theorem c56 : (Go.Proofs.Tryd.f56).body.bind (comp prog.P (1, (Go.Proofs.Tryd.f56).ntmps) lv56) = some m56 := by kernel_rfl
theorem r56 : resOK prog.P (Go.Proofs.Tryd.f56).results.toList = true := by kernel_rfl

/-- spec.l16Good -/
def lv57 : List (Nat × List Nat) := [(0, [0]), (1, [0, 3]), (2, [0, 3, 7]), (3, [0, 3]), (4, [0, 3, 15]), (5, [2]), (6, [2])]
def m57 : MC :=
  (.seq
 (.reg false [0] [⟨(some 2), none, false, .mov (.k (.d (.bool false)))⟩])
 (.seq
 (.seq
 (.reg false [0, 3] [⟨(some 3), none, false, .mov (.k (.d (.int .i64 0)))⟩])
 (.block 0
 (.loop
 (.seq
 (.seq
 (.reg false [0, 3, 7] [⟨(some 4), none, false, .mov (.t 3)⟩,
 ⟨(some 5), none, false, .mov (.t 0)⟩,
 ⟨(some 6), none, false, .len false (.t 5)⟩,
 ⟨(some 7), none, false, .bin .lss (.t 4) (.t 6)⟩])
 (.cond (.t 7)
 .skip
 (.exit 0)))
 (.seq
 (.block 1
 (.seq
 (.reg false [0, 3, 15] [⟨(some 10), none, false, .mov (.t 0)⟩,
 ⟨(some 11), none, false, .mov (.t 3)⟩,
 ⟨(some 12), none, false, .ia 1 (.t 10) (.t 11)⟩,
 ⟨(some 13), none, false, .ld none (.t 12)⟩,
 ⟨(some 14), none, true, .call 81 [(.t 13)]⟩,
 ⟨(some 15), none, false, .un .not (.t 14)⟩])
 (.cond (.t 15)
 (.seq
 (.reg false [2] [⟨(some 2), none, false, .mov (.k (.d (.bool false)))⟩])
 .ret)
 .skip)))
 (.reg false [0, 3] [⟨(some 8), none, false, .mov (.t 3)⟩,
 ⟨(some 9), none, false, .bin .add (.t 8) (.k (.d (.int .i64 1)))⟩,
 ⟨(some 3), none, false, .mov (.t 9)⟩]))))))
 (.seq
 (.reg false [2] [⟨(some 16), none, false, .mov (.t 0)⟩,
 ⟨(some 17), none, false, .len false (.t 16)⟩,
 ⟨(some 18), none, true, .call 44 [(.t 17), (.k (.d (.int .i64 1))), (.k (.d (.int .i64 8)))]⟩,
 ⟨(some 2), none, false, .mov (.t 18)⟩])
 .ret)))
theorem c57 : (Go.Proofs.Tryd.f57).body.bind (comp prog.P (1, (Go.Proofs.Tryd.f57).ntmps) lv57) = some m57 := by kernel_rfl
theorem r57 : resOK prog.P (Go.Proofs.Tryd.f57).results.toList = true := by kernel_rfl

/-- spec.l25Case -/
def lv58 : List (Nat × List Nat) := [(0, [1]), (1, [2])]
def m58 : MC :=
  (.seq
 (.reg false [1] [⟨(some 1), none, true, .box (.t 0)⟩,
 ⟨(some 2), none, false, .mov (.k (.d (.bool false)))⟩])
 (.seq
 (.reg false [2] [⟨(some 3), none, false, .fa 0 0 (.t 1)⟩,
 ⟨(some 4), none, false, .ld none (.t 3)⟩,
 ⟨(some 5), none, true, .call 44 [(.t 4), (.k (.d (.int .i64 1))), (.k (.d (.int .i64 999)))]⟩,
 ⟨(some 6), none, false, .mov (.t 5)⟩,
 ⟨(some 7), (some (6, true)), false, .fa 1 1 (.t 1)⟩,
 ⟨(some 8), (some (6, true)), false, .ld none (.t 7)⟩,
 ⟨(some 9), (some (6, true)), true, .call 44 [(.t 8), (.k (.d (.int .i64 1))), (.k (.d (.int .i64 3)))]⟩,
 ⟨(some 10), none, false, .pick (.t 6) (.t 9) (.k (.d (.bool false)))⟩,
 ⟨(some 11), none, false, .mov (.t 10)⟩,
 ⟨(some 12), (some (11, true)), false, .fa 2 2 (.t 1)⟩,
 ⟨(some 13), (some (11, true)), false, .ld none (.t 12)⟩,
 ⟨(some 14), (some (11, true)), true, .call 56 [(.t 13)]⟩,
 ⟨(some 15), none, false, .pick (.t 11) (.t 14) (.k (.d (.bool false)))⟩,
 ⟨(some 16), none, false, .mov (.t 15)⟩,
 ⟨(some 17), (some (16, true)), false, .fa 3 3 (.t 1)⟩,
 ⟨(some 18), (some (16, true)), false, .ld none (.t 17)⟩,
 ⟨(some 19), (some (16, true)), false, .len false (.t 18)⟩,
 ⟨(some 20), (some (16, true)), false, .bin .leq (.t 19) (.k (.d (.int .i64 5)))⟩,
 ⟨(some 21), none, false, .pick (.t 16) (.t 20) (.k (.d (.bool false)))⟩,
 ⟨(some 22), none, false, .mov (.t 21)⟩,
 ⟨(some 23), (some (22, true)), false, .fa 3 3 (.t 1)⟩,
 ⟨(some 24), (some (22, true)), false, .ld none (.t 23)⟩,
 ⟨(some 25), (some (22, true)), true, .call 82 [(.t 24), (.k (.d (.int .i64 1))), (.k (.d (.int .i64 9)))]⟩,
 ⟨(some 26), none, false, .pick (.t 22) (.t 25) (.k (.d (.bool false)))⟩,
 ⟨(some 2), none, false, .mov (.t 26)⟩])
 .ret))
theorem c58 : (Go.Proofs.Tryd.f58).body.bind (comp prog.P (1, (Go.Proofs.Tryd.f58).ntmps) lv58) = some m58 := by kernel_rfl
theorem r58 : resOK prog.P (Go.Proofs.Tryd.f58).results.toList = true := by kernel_rfl

/-- laws.toCase -/
def lv59 : List (Nat × List Nat) := [(0, [1, 2]), (1, [1, 2, 3]), (2, [1, 2, 3]), (3, [1, 2, 3]), (4, [1, 2, 3]), (5, [2, 3]), (6, [2])]
def m59 : MC :=
  (.seq
 (.reg false [1, 2] [⟨(some 1), none, true, .box (.t 0)⟩,
 ⟨(some 2), none, true, .alloc (.st (.cons (.int .i64 0) (.cons (.int .i64 0) (.cons (.int .i64 0) (.cons (.sl true 1 .nil) .nil)))))⟩])
 (.seq
 (.reg false [1, 2, 3] [⟨(some 3), none, true, .alloc (.st (.cons (.int .i64 0) (.cons (.int .i64 0) (.cons (.int .i64 0) (.cons (.sl true 1 .nil) .nil)))))⟩])
 (.seq
 (.reg false [1, 2, 3] [⟨(some 4), none, false, .fa 0 0 (.t 1)⟩,
 ⟨(some 5), none, false, .ld none (.t 4)⟩,
 ⟨(some 6), none, false, .fa 0 0 (.t 3)⟩,
 ⟨none, none, true, .st 1 (.t 6) (.t 5)⟩])
 (.seq
 (.reg false [1, 2, 3] [⟨(some 7), none, false, .fa 1 1 (.t 1)⟩,
 ⟨(some 8), none, false, .ld none (.t 7)⟩,
 ⟨(some 9), none, false, .fa 1 1 (.t 3)⟩,
 ⟨none, none, true, .st 1 (.t 9) (.t 8)⟩])
 (.seq
 (.reg false [1, 2, 3] [⟨(some 10), none, false, .fa 2 2 (.t 1)⟩,
 ⟨(some 11), none, false, .ld none (.t 10)⟩,
 ⟨(some 12), none, false, .fa 2 2 (.t 3)⟩,
 ⟨none, none, true, .st 1 (.t 12) (.t 11)⟩])
 (.seq
 (.reg false [2, 3] [⟨(some 13), none, false, .fa 3 3 (.t 1)⟩,
 ⟨(some 14), none, false, .ld none (.t 13)⟩,
 ⟨(some 15), none, true, .call 83 [(.t 14)]⟩,
 ⟨(some 16), none, false, .fa 3 3 (.t 3)⟩,
 ⟨none, none, true, .st 1 (.t 16) (.t 15)⟩])
 (.seq
 (.reg false [2] [⟨(some 17), none, false, .ld (some 4) (.t 3)⟩,
 ⟨none, none, true, .st 4 (.t 2) (.t 17)⟩])
 .ret)))))))
theorem c59 : (Go.Proofs.Tryd.f59).body.bind (comp prog.P (1, (Go.Proofs.Tryd.f59).ntmps) lv59) = some m59 := by kernel_rfl
theorem r59 : resOK prog.P (Go.Proofs.Tryd.f59).results.toList = true := by kernel_rfl

/-- slices.ContainsFunc[[]string,string] -/
def lv60 : List (Nat × List Nat) := [(0, [0, 1]), (1, [4])]
def m60 : MC :=
  (.seq
 (.reg false [0, 1] [⟨(some 4), none, false, .mov (.k (.d (.bool false)))⟩])
 (.seq
 (.reg false [4] [⟨(some 5), none, false, .mov (.t 0)⟩,
 ⟨(some 6), none, false, .mov (.t 1)⟩,
 ⟨(some 7), none, true, .call 84 [(.t 5), (.t 6)]⟩,
 ⟨(some 8), none, false, .bin .geq (.t 7) (.k (.d (.int .i64 0)))⟩,
 ⟨(some 4), none, false, .mov (.t 8)⟩])
 .ret))
theorem c60 : (Go.Proofs.Tryd.f60).body.bind (comp prog.P (2, (Go.Proofs.Tryd.f60).ntmps) lv60) = some m60 := by kernel_rfl
theorem r60 : resOK prog.P (Go.Proofs.Tryd.f60).results.toList = true := by kernel_rfl

/-- impl.IsLedger$1 -/
def lv61 : List (Nat × List Nat) := [(0, [0]), (1, [2])]
def m61 : MC :=
  (.seq
 (.reg false [0] [⟨(some 2), none, false, .mov (.k (.d (.bool false)))⟩])
 (.seq
 (.reg false [2] [⟨(some 3), none, false, .mov (.t 0)⟩,
 ⟨(some 4), none, true, .call 62 [(.t 3)]⟩,
 ⟨(some 5), none, false, .un .not (.t 4)⟩,
 ⟨(some 2), none, false, .mov (.t 5)⟩])
 .ret))
theorem c61 : (Go.Proofs.Tryd.f61).body.bind (comp prog.P (1, (Go.Proofs.Tryd.f61).ntmps) lv61) = some m61 := by kernel_rfl
theorem r61 : resOK prog.P (Go.Proofs.Tryd.f61).results.toList = true := by kernel_rfl
theorem en61 : enterOK prog.P 61 = true := by kernel_rfl

/-- impl.isEntry -/
def lv62 : List (Nat × List Nat) := [(0, [0]), (1, [2])]
def m62 : MC :=
  (.seq
 (.reg false [0] [⟨(some 2), none, false, .mov (.k (.d (.bool false)))⟩])
 (.seq
 (.reg false [2] [⟨(some 3), none, false, .mov (.t 0)⟩,
 ⟨(some 4), none, false, .len true (.t 3)⟩,
 ⟨(some 5), none, true, .call 34 [(.t 4), (.k (.d (.int .i64 1))), (.k (.d (.int .i64 40)))]⟩,
 ⟨(some 6), none, false, .mov (.t 5)⟩,
 ⟨(some 7), (some (6, true)), false, .mov (.t 0)⟩,
 ⟨(some 8), (some (6, true)), true, .call 85 [(.t 7), (.k (.d (.str [97, 98, 99, 100, 101, 102, 103, 104, 105, 106, 107, 108, 109, 110, 111, 112, 113, 114, 115, 116, 117, 118, 119, 120, 121, 122, 48, 49, 50, 51, 52, 53, 54, 55, 56, 57, 32, 45])))]⟩,
 ⟨(some 9), (some (6, true)), false, .bin .eql (.t 8) (.k (.d (.str [])))⟩,
 ⟨(some 10), none, false, .pick (.t 6) (.t 9) (.k (.d (.bool false)))⟩,
 ⟨(some 2), none, false, .mov (.t 10)⟩])
 .ret))
theorem c62 : (Go.Proofs.Tryd.f62).body.bind (comp prog.P (1, (Go.Proofs.Tryd.f62).ntmps) lv62) = some m62 := by kernel_rfl
theorem r62 : resOK prog.P (Go.Proofs.Tryd.f62).results.toList = true := by kernel_rfl

/-- impl.isRecordId -/
def lv63 : List (Nat × List Nat) := [(0, [0]), (1, [2])]
def m63 : MC :=
  (.seq
 (.reg false [0] [⟨(some 2), none, false, .mov (.k (.d (.bool false)))⟩])
 (.seq
 (.reg false [2] [⟨(some 3), none, false, .mov (.t 0)⟩,
 ⟨(some 4), none, true, .call 34 [(.t 3), (.k (.d (.int .i64 1))), (.k (.d (.int .i64 999)))]⟩,
 ⟨(some 2), none, false, .mov (.t 4)⟩])
 .ret))
theorem c63 : (Go.Proofs.Tryd.f63).body.bind (comp prog.P (1, (Go.Proofs.Tryd.f63).ntmps) lv63) = some m63 := by kernel_rfl
theorem r63 : resOK prog.P (Go.Proofs.Tryd.f63).results.toList = true := by kernel_rfl

/-- impl.isAct -/
def lv64 : List (Nat × List Nat) := [(0, [0]), (1, [2])]
def m64 : MC :=
  (.seq
 (.reg false [0] [⟨(some 2), none, false, .mov (.k (.d (.bool false)))⟩])
 (.seq
 (.reg false [2] [⟨(some 3), none, false, .mov (.t 0)⟩,
 ⟨(some 4), none, true, .call 34 [(.t 3), (.k (.d (.int .i64 1))), (.k (.d (.int .i64 3)))]⟩,
 ⟨(some 2), none, false, .mov (.t 4)⟩])
 .ret))
theorem c64 : (Go.Proofs.Tryd.f64).body.bind (comp prog.P (1, (Go.Proofs.Tryd.f64).ntmps) lv64) = some m64 := by kernel_rfl
theorem r64 : resOK prog.P (Go.Proofs.Tryd.f64).results.toList = true := by kernel_rfl

/-- impl.areRising -/
def lv65 : List (Nat × List Nat) := [(0, [0]), (1, [0, 3]), (2, [0, 3, 7]), (3, [0, 3]), (4, [0, 3, 19]), (5, [2]), (6, [2])]
def m65 : MC :=
  (.seq
 (.reg false [0] [⟨(some 2), none, false, .mov (.k (.d (.bool false)))⟩])
 (.seq
 (.seq
 (.reg false [0, 3] [⟨(some 3), none, false, .mov (.k (.d (.int .i64 1)))⟩])
 (.block 0
 (.loop
 (.seq
 (.seq
 (.reg false [0, 3, 7] [⟨(some 4), none, false, .mov (.t 3)⟩,
 ⟨(some 5), none, false, .mov (.t 0)⟩,
 ⟨(some 6), none, false, .len false (.t 5)⟩,
 ⟨(some 7), none, false, .bin .lss (.t 4) (.t 6)⟩])
 (.cond (.t 7)
 .skip
 (.exit 0)))
 (.seq
 (.block 1
 (.seq
 (.reg true [0, 3, 19] [⟨(some 10), none, false, .mov (.t 0)⟩,
 ⟨(some 11), none, false, .mov (.t 3)⟩,
 ⟨(some 12), none, false, .bin .sub (.t 11) (.k (.d (.int .i64 1)))⟩,
 ⟨(some 13), none, false, .ia 1 (.t 10) (.t 12)⟩,
 ⟨(some 14), none, false, .ld none (.t 13)⟩,
 ⟨(some 15), none, false, .mov (.t 0)⟩,
 ⟨(some 16), none, false, .mov (.t 3)⟩,
 ⟨(some 17), none, false, .ia 1 (.t 15) (.t 16)⟩,
 ⟨(some 18), none, false, .ld none (.t 17)⟩,
 ⟨(some 19), none, false, .bin .geq (.t 14) (.t 18)⟩])
 (.cond (.t 19)
 (.seq
 (.reg false [2] [⟨(some 2), none, false, .mov (.k (.d (.bool false)))⟩])
 .ret)
 .skip)))
 (.reg false [0, 3] [⟨(some 8), none, false, .mov (.t 3)⟩,
 ⟨(some 9), none, false, .bin .add (.t 8) (.k (.d (.int .i64 1)))⟩,
 ⟨(some 3), none, false, .mov (.t 9)⟩]))))))
 (.seq
 (.reg false [2] [⟨(some 2), none, false, .mov (.k (.d (.bool true)))⟩])
 .ret)))
theorem c65 : (Go.Proofs.Tryd.f65).body.bind (comp prog.P (1, (Go.Proofs.Tryd.f65).ntmps) lv65) = some m65 := by kernel_rfl
theorem r65 : resOK prog.P (Go.Proofs.Tryd.f65).results.toList = true := by kernel_rfl

/-- slices.ContainsFunc[[]int,int] -/
def lv66 : List (Nat × List Nat) := [(0, [0, 1]), (1, [4])]
def m66 : MC :=
  (.seq
 (.reg false [0, 1] [⟨(some 4), none, false, .mov (.k (.d (.bool false)))⟩])
 (.seq
 (.reg false [4] [⟨(some 5), none, false, .mov (.t 0)⟩,
 ⟨(some 6), none, false, .mov (.t 1)⟩,
 ⟨(some 7), none, true, .call 86 [(.t 5), (.t 6)]⟩,
 ⟨(some 8), none, false, .bin .geq (.t 7) (.k (.d (.int .i64 0)))⟩,
 ⟨(some 4), none, false, .mov (.t 8)⟩])
 .ret))
theorem c66 : (Go.Proofs.Tryd.f66).body.bind (comp prog.P (2, (Go.Proofs.Tryd.f66).ntmps) lv66) = some m66 := by kernel_rfl
theorem r66 : resOK prog.P (Go.Proofs.Tryd.f66).results.toList = true := by kernel_rfl

/-- impl.isCase$1 -/
def lv67 : List (Nat × List Nat) := [(0, [0]), (1, [2])]
def m67 : MC :=
  (.seq
 (.reg false [0] [⟨(some 2), none, false, .mov (.k (.d (.bool false)))⟩])
 (.seq
 (.reg false [2] [⟨(some 3), none, false, .mov (.t 0)⟩,
 ⟨(some 4), none, true, .call 46 [(.t 3)]⟩,
 ⟨(some 5), none, false, .un .not (.t 4)⟩,
 ⟨(some 2), none, false, .mov (.t 5)⟩])
 .ret))
theorem c67 : (Go.Proofs.Tryd.f67).body.bind (comp prog.P (1, (Go.Proofs.Tryd.f67).ntmps) lv67) = some m67 := by kernel_rfl
theorem r67 : resOK prog.P (Go.Proofs.Tryd.f67).results.toList = true := by kernel_rfl
theorem en67 : enterOK prog.P 67 = true := by kernel_rfl

/-- laws.eqCase -/
def lv68 : List (Nat × List Nat) := [(0, [2, 3]), (1, [2, 3, 9]), (2, [4]), (3, [2, 3, 14]), (4, [4]), (5, [2, 3, 19]), (6, [4]), (7, [25]), (8, [4]), (9, [4])]
def m68 : MC :=
  (.seq
 (.reg false [2, 3] [⟨(some 2), none, true, .box (.t 0)⟩,
 ⟨(some 3), none, true, .box (.t 1)⟩,
 ⟨(some 4), none, false, .mov (.k (.d (.bool false)))⟩])
 (.seq
 (.seq
 (.reg false [2, 3, 9] [⟨(some 5), none, false, .fa 0 0 (.t 2)⟩,
 ⟨(some 6), none, false, .ld none (.t 5)⟩,
 ⟨(some 7), none, false, .fa 0 0 (.t 3)⟩,
 ⟨(some 8), none, false, .ld none (.t 7)⟩,
 ⟨(some 9), none, false, .bin .neq (.t 6) (.t 8)⟩])
 (.cond (.t 9)
 (.seq
 (.reg false [4] [⟨(some 4), none, false, .mov (.k (.d (.bool false)))⟩])
 .ret)
 .skip))
 (.seq
 (.seq
 (.reg false [2, 3, 14] [⟨(some 10), none, false, .fa 1 1 (.t 2)⟩,
 ⟨(some 11), none, false, .ld none (.t 10)⟩,
 ⟨(some 12), none, false, .fa 1 1 (.t 3)⟩,
 ⟨(some 13), none, false, .ld none (.t 12)⟩,
 ⟨(some 14), none, false, .bin .neq (.t 11) (.t 13)⟩])
 (.cond (.t 14)
 (.seq
 (.reg false [4] [⟨(some 4), none, false, .mov (.k (.d (.bool false)))⟩])
 .ret)
 .skip))
 (.seq
 (.seq
 (.reg false [2, 3, 19] [⟨(some 15), none, false, .fa 2 2 (.t 2)⟩,
 ⟨(some 16), none, false, .ld none (.t 15)⟩,
 ⟨(some 17), none, false, .fa 2 2 (.t 3)⟩,
 ⟨(some 18), none, false, .ld none (.t 17)⟩,
 ⟨(some 19), none, false, .bin .neq (.t 16) (.t 18)⟩])
 (.cond (.t 19)
 (.seq
 (.reg false [4] [⟨(some 4), none, false, .mov (.k (.d (.bool false)))⟩])
 .ret)
 .skip))
 (.seq
 (.seq
 (.reg false [25] [⟨(some 20), none, false, .fa 3 3 (.t 2)⟩,
 ⟨(some 21), none, false, .ld none (.t 20)⟩,
 ⟨(some 22), none, false, .fa 3 3 (.t 3)⟩,
 ⟨(some 23), none, false, .ld none (.t 22)⟩,
 ⟨(some 24), none, true, .call 16 [(.t 21), (.t 23)]⟩,
 ⟨(some 25), none, false, .un .not (.t 24)⟩])
 (.cond (.t 25)
 (.seq
 (.reg false [4] [⟨(some 4), none, false, .mov (.k (.d (.bool false)))⟩])
 .ret)
 .skip))
 (.seq
 (.reg false [4] [⟨(some 4), none, false, .mov (.k (.d (.bool true)))⟩])
 .ret))))))
theorem c68 : (Go.Proofs.Tryd.f68).body.bind (comp prog.P (2, (Go.Proofs.Tryd.f68).ntmps) lv68) = some m68 := by kernel_rfl
theorem r68 : resOK prog.P (Go.Proofs.Tryd.f68).results.toList = true := by kernel_rfl

/-- laws.markText -/
def lv69 : List (Nat × List Nat) := [(0, [0]), (1, [0, 5]), (2, [2]), (3, [0, 3]), (4, [0, 3, 7]), (5, [0, 3]), (6, [0, 3]), (7, [2])]
def m69 : MC :=
  (.seq
 (.reg false [0] [⟨(some 2), none, false, .mov (.k (.d (.str [])))⟩])
 (.seq
 (.seq
 (.reg false [0, 5] [⟨(some 4), none, false, .mov (.t 0)⟩,
 ⟨(some 5), none, false, .bin .leq (.t 4) (.k (.d (.int .i64 0)))⟩])
 (.cond (.t 5)
 (.seq
 (.reg false [2] [⟨(some 2), none, false, .mov (.k (.d (.str [109, 48])))⟩])
 .ret)
 .skip))
 (.seq
 (.reg false [0, 3] [⟨(some 3), none, false, .mov (.k (.d (.str [])))⟩])
 (.seq
 (.block 0
 (.loop
 (.seq
 (.seq
 (.reg false [0, 3, 7] [⟨(some 6), none, false, .mov (.t 0)⟩,
 ⟨(some 7), none, false, .bin .gtr (.t 6) (.k (.d (.int .i64 0)))⟩])
 (.cond (.t 7)
 .skip
 (.exit 0)))
 (.block 1
 (.seq
 (.reg false [0, 3] [⟨(some 8), none, false, .mov (.t 0)⟩,
 ⟨(some 9), none, false, .bin .rem (.t 8) (.k (.d (.int .i64 10)))⟩,
 ⟨(some 10), none, false, .bin .add (.k (.d (.int .i64 48))) (.t 9)⟩,
 ⟨(some 11), none, false, .conv .u8 (.t 10)⟩,
 ⟨(some 12), none, true, .bs 1 1 (.int .u8 0) [(0, (.t 11))]⟩,
 ⟨(some 13), none, false, .b2s (.t 12)⟩,
 ⟨(some 14), none, false, .mov (.t 3)⟩,
 ⟨(some 15), none, false, .bin .add (.t 13) (.t 14)⟩,
 ⟨(some 3), none, false, .mov (.t 15)⟩])
 (.reg false [0, 3] [⟨(some 16), none, false, .mov (.t 0)⟩,
 ⟨(some 17), none, false, .bin .quo (.t 16) (.k (.d (.int .i64 10)))⟩,
 ⟨(some 0), none, false, .mov (.t 17)⟩]))))))
 (.seq
 (.reg false [2] [⟨(some 18), none, false, .mov (.t 3)⟩,
 ⟨(some 19), none, false, .bin .add (.k (.d (.str [109]))) (.t 18)⟩,
 ⟨(some 2), none, false, .mov (.t 19)⟩])
 .ret)))))
theorem c69 : (Go.Proofs.Tryd.f69).body.bind (comp prog.P (0, (Go.Proofs.Tryd.f69).ntmps) lv69) = some m69 := by kernel_rfl
theorem r69 : resOK prog.P (Go.Proofs.Tryd.f69).results.toList = true := by kernel_rfl

/-- laws.szIntS -/
def lv80 : List (Nat × List Nat) := [(0, [0, 1]), (1, [1]), (2, [1, 10]), (3, [4]), (4, [4])]
def m80 : MC :=
  (.seq
 (.reg false [0, 1] [⟨(some 4), none, false, .mov (.k (.d (.int .i64 0)))⟩])
 (.seq
 (.reg false [1] [⟨(some 5), none, false, .mov (.t 1)⟩,
 ⟨(some 6), none, false, .mov (.t 0)⟩,
 ⟨(some 7), none, false, .len false (.t 6)⟩,
 ⟨(some 8), none, false, .bin .sub (.t 5) (.t 7)⟩,
 ⟨(some 1), none, false, .mov (.t 8)⟩])
 (.seq
 (.seq
 (.reg false [1, 10] [⟨(some 9), none, false, .mov (.t 1)⟩,
 ⟨(some 10), none, false, .bin .lss (.t 9) (.k (.d (.int .i64 0)))⟩])
 (.cond (.t 10)
 (.seq
 (.reg false [4] [⟨(some 4), none, false, .mov (.k (.d (.int .i64 (-1))))⟩])
 .ret)
 .skip))
 (.seq
 (.reg false [4] [⟨(some 11), none, false, .mov (.t 1)⟩,
 ⟨(some 4), none, false, .mov (.t 11)⟩])
 .ret))))
theorem c80 : (Go.Proofs.Tryd.f80).body.bind (comp prog.P (1, (Go.Proofs.Tryd.f80).ntmps) lv80) = some m80 := by kernel_rfl
theorem r80 : resOK prog.P (Go.Proofs.Tryd.f80).results.toList = true := by kernel_rfl

/-- spec.l16Entry -/
def lv81 : List (Nat × List Nat) := [(0, [0]), (1, [0, 3]), (2, [0, 3, 8]), (3, [0, 3]), (4, [0, 3, 4]), (5, [0, 3, 33]), (6, [2]), (7, [2])]
def m81 : MC :=
  (.seq
 (.reg false [0] [⟨(some 2), none, false, .mov (.k (.d (.bool false)))⟩])
 (.seq
 (.seq
 (.reg false [0, 3] [⟨(some 3), none, false, .mov (.k (.d (.int .i64 0)))⟩])
 (.block 0
 (.loop
 (.seq
 (.seq
 (.reg false [0, 3, 8] [⟨(some 5), none, false, .mov (.t 3)⟩,
 ⟨(some 6), none, false, .mov (.t 0)⟩,
 ⟨(some 7), none, false, .len true (.t 6)⟩,
 ⟨(some 8), none, false, .bin .lss (.t 5) (.t 7)⟩])
 (.cond (.t 8)
 .skip
 (.exit 0)))
 (.seq
 (.block 1
 (.seq
 (.reg false [0, 3, 4] [⟨(some 11), none, false, .mov (.t 0)⟩,
 ⟨(some 12), none, false, .mov (.t 3)⟩,
 ⟨(some 13), none, false, .ix (.t 11) (.t 12)⟩,
 ⟨(some 4), none, false, .mov (.t 13)⟩])
 (.seq
 (.reg false [0, 3, 33] [⟨(some 14), none, false, .mov (.t 4)⟩,
 ⟨(some 15), none, true, .call 94 [(.t 14)]⟩,
 ⟨(some 16), none, false, .un .not (.t 15)⟩,
 ⟨(some 17), none, false, .mov (.t 16)⟩,
 ⟨(some 18), (some (17, true)), false, .mov (.t 4)⟩,
 ⟨(some 19), (some (17, true)), false, .bin .geq (.t 18) (.k (.d (.int .u8 48)))⟩,
 ⟨(some 20), (some (17, true)), false, .mov (.t 19)⟩,
 ⟨(some 21), (some (20, true)), false, .mov (.t 4)⟩,
 ⟨(some 22), (some (20, true)), false, .bin .leq (.t 21) (.k (.d (.int .u8 57)))⟩,
 ⟨(some 23), (some (17, true)), false, .pick (.t 20) (.t 22) (.k (.d (.bool false)))⟩,
 ⟨(some 24), (some (17, true)), false, .un .not (.t 23)⟩,
 ⟨(some 25), none, false, .pick (.t 17) (.t 24) (.k (.d (.bool false)))⟩,
 ⟨(some 26), none, false, .mov (.t 25)⟩,
 ⟨(some 27), (some (26, true)), false, .mov (.t 4)⟩,
 ⟨(some 28), (some (26, true)), false, .bin .neq (.t 27) (.k (.d (.int .u8 32)))⟩,
 ⟨(some 29), none, false, .pick (.t 26) (.t 28) (.k (.d (.bool false)))⟩,
 ⟨(some 30), none, false, .mov (.t 29)⟩,
 ⟨(some 31), (some (30, true)), false, .mov (.t 4)⟩,
 ⟨(some 32), (some (30, true)), false, .bin .neq (.t 31) (.k (.d (.int .u8 45)))⟩,
 ⟨(some 33), none, false, .pick (.t 30) (.t 32) (.k (.d (.bool false)))⟩])
 (.cond (.t 33)
 (.seq
 (.reg false [2] [⟨(some 2), none, false, .mov (.k (.d (.bool false)))⟩])
 .ret)
 .skip))))
 (.reg false [0, 3] [⟨(some 9), none, false, .mov (.t 3)⟩,
 ⟨(some 10), none, false, .bin .add (.t 9) (.k (.d (.int .i64 1)))⟩,
 ⟨(some 3), none, false, .mov (.t 10)⟩]))))))
 (.seq
 (.reg false [2] [⟨(some 34), none, false, .mov (.t 0)⟩,
 ⟨(some 35), none, false, .len true (.t 34)⟩,
 ⟨(some 36), none, true, .call 44 [(.t 35), (.k (.d (.int .i64 1))), (.k (.d (.int .i64 40)))]⟩,
 ⟨(some 2), none, false, .mov (.t 36)⟩])
 .ret)))
theorem c81 : (Go.Proofs.Tryd.f81).body.bind (comp prog.P (1, (Go.Proofs.Tryd.f81).ntmps) lv81) = some m81 := by kernel_rfl
theorem r81 : resOK prog.P (Go.Proofs.Tryd.f81).results.toList = true := by kernel_rfl

/-- spec.l1Rising -/
def lv82 : List (Nat × List Nat) := [(0, [0, 1, 2]), (1, [0, 1, 2, 7]), (2, [0, 1, 2, 7, 11]), (3, [0, 1, 2, 7]), (4, [0, 1, 2, 7, 37]), (5, [6]), (6, [6])]
def m82 : MC :=
  (.seq
 (.reg false [0, 1, 2] [⟨(some 6), none, false, .mov (.k (.d (.bool false)))⟩])
 (.seq
 (.seq
 (.reg false [0, 1, 2, 7] [⟨(some 7), none, false, .mov (.k (.d (.int .i64 0)))⟩])
 (.block 0
 (.loop
 (.seq
 (.seq
 (.reg false [0, 1, 2, 7, 11] [⟨(some 8), none, false, .mov (.t 7)⟩,
 ⟨(some 9), none, false, .mov (.t 0)⟩,
 ⟨(some 10), none, false, .len false (.t 9)⟩,
 ⟨(some 11), none, false, .bin .lss (.t 8) (.t 10)⟩])
 (.cond (.t 11)
 .skip
 (.exit 0)))
 (.seq
 (.block 1
 (.seq
 (.reg true [0, 1, 2, 7, 37] [⟨(some 14), none, false, .mov (.t 0)⟩,
 ⟨(some 15), none, false, .mov (.t 7)⟩,
 ⟨(some 16), none, false, .ia 1 (.t 14) (.t 15)⟩,
 ⟨(some 17), none, false, .ld none (.t 16)⟩,
 ⟨(some 18), none, false, .mov (.t 1)⟩,
 ⟨(some 19), none, false, .mov (.t 2)⟩,
 ⟨(some 20), none, false, .callP 44 [(.t 17), (.t 18), (.t 19)]⟩,
 ⟨(some 21), none, false, .un .not (.t 20)⟩,
 ⟨(some 22), none, false, .mov (.t 21)⟩,
 ⟨(some 23), (some (22, false)), false, .mov (.t 7)⟩,
 ⟨(some 24), (some (22, false)), false, .bin .gtr (.t 23) (.k (.d (.int .i64 0)))⟩,
 ⟨(some 25), (some (22, false)), false, .mov (.t 24)⟩,
 ⟨(some 26), (some (25, true)), false, .mov (.t 0)⟩,
 ⟨(some 27), (some (25, true)), false, .mov (.t 7)⟩,
 ⟨(some 28), (some (25, true)), false, .bin .sub (.t 27) (.k (.d (.int .i64 1)))⟩,
 ⟨(some 29), (some (25, true)), false, .ia 1 (.t 26) (.t 28)⟩,
 ⟨(some 30), (some (25, true)), false, .ld none (.t 29)⟩,
 ⟨(some 31), (some (25, true)), false, .mov (.t 0)⟩,
 ⟨(some 32), (some (25, true)), false, .mov (.t 7)⟩,
 ⟨(some 33), (some (25, true)), false, .ia 1 (.t 31) (.t 32)⟩,
 ⟨(some 34), (some (25, true)), false, .ld none (.t 33)⟩,
 ⟨(some 35), (some (25, true)), false, .bin .geq (.t 30) (.t 34)⟩,
 ⟨(some 36), (some (22, false)), false, .pick (.t 25) (.t 35) (.k (.d (.bool false)))⟩,
 ⟨(some 37), none, false, .pick (.t 22) (.k (.d (.bool true))) (.t 36)⟩])
 (.cond (.t 37)
 (.seq
 (.reg false [6] [⟨(some 6), none, false, .mov (.k (.d (.bool false)))⟩])
 .ret)
 .skip)))
 (.reg false [0, 1, 2, 7] [⟨(some 12), none, false, .mov (.t 7)⟩,
 ⟨(some 13), none, false, .bin .add (.t 12) (.k (.d (.int .i64 1)))⟩,
 ⟨(some 7), none, false, .mov (.t 13)⟩]))))))
 (.seq
 (.reg false [6] [⟨(some 6), none, false, .mov (.k (.d (.bool true)))⟩])
 .ret)))
theorem c82 : (Go.Proofs.Tryd.f82).body.bind (comp prog.P (3, (Go.Proofs.Tryd.f82).ntmps) lv82) = some m82 := by kernel_rfl
theorem r82 : resOK prog.P (Go.Proofs.Tryd.f82).results.toList = true := by kernel_rfl

/-- laws.toIntS -/
def lv83 : List (Nat × List Nat) := [(0, [0]), (1, [0, 3]), (2, [0, 3, 4]), (3, [0, 3, 4, 11]), (4, [0, 3, 4]), (5, [0, 3, 4]), (6, [2])]
def m83 : MC :=
  (.seq
 (.reg false [0] [⟨(some 2), none, false, .mov (.k .nil)⟩])
 (.seq
 (.reg false [0, 3] [⟨(some 5), none, false, .mov (.t 0)⟩,
 ⟨(some 6), none, false, .len false (.t 5)⟩,
 ⟨(some 7), none, true, .mk 1 8 (.int .i64 0) (.t 6)⟩,
 ⟨(some 3), none, false, .mov (.t 7)⟩])
 (.seq
 (.seq
 (.reg false [0, 3, 4] [⟨(some 4), none, false, .mov (.k (.d (.int .i64 0)))⟩])
 (.block 0
 (.loop
 (.seq
 (.seq
 (.reg false [0, 3, 4, 11] [⟨(some 8), none, false, .mov (.t 4)⟩,
 ⟨(some 9), none, false, .mov (.t 0)⟩,
 ⟨(some 10), none, false, .len false (.t 9)⟩,
 ⟨(some 11), none, false, .bin .lss (.t 8) (.t 10)⟩])
 (.cond (.t 11)
 .skip
 (.exit 0)))
 (.seq
 (.block 1
 (.reg false [0, 3, 4] [⟨(some 14), none, false, .mov (.t 3)⟩,
 ⟨(some 15), none, false, .mov (.t 4)⟩,
 ⟨(some 16), none, false, .mov (.t 0)⟩,
 ⟨(some 17), none, false, .mov (.t 4)⟩,
 ⟨(some 18), none, false, .ia 1 (.t 16) (.t 17)⟩,
 ⟨(some 19), none, false, .ld none (.t 18)⟩,
 ⟨(some 20), none, false, .ia 1 (.t 14) (.t 15)⟩,
 ⟨none, none, true, .st 1 (.t 20) (.t 19)⟩]))
 (.reg false [0, 3, 4] [⟨(some 12), none, false, .mov (.t 4)⟩,
 ⟨(some 13), none, false, .bin .add (.t 12) (.k (.d (.int .i64 1)))⟩,
 ⟨(some 4), none, false, .mov (.t 13)⟩]))))))
 (.seq
 (.reg false [2] [⟨(some 21), none, false, .mov (.t 3)⟩,
 ⟨(some 2), none, false, .mov (.t 21)⟩])
 .ret))))
theorem c83 : (Go.Proofs.Tryd.f83).body.bind (comp prog.P (1, (Go.Proofs.Tryd.f83).ntmps) lv83) = some m83 := by kernel_rfl
theorem r83 : resOK prog.P (Go.Proofs.Tryd.f83).results.toList = true := by kernel_rfl

/-- slices.IndexFunc[[]string,string] -/
def lv84 : List (Nat × List Nat) := [(0, [0, 1]), (1, [0, 1, 7, 8]), (2, [0, 1, 7, 8, 9]), (3, [0, 1, 5, 7, 8]), (4, [0, 1, 5, 7, 8, 16]), (5, [4]), (6, [0, 1, 7, 8]), (7, [4])]
def m84 : MC :=
  (.seq
 (.reg false [0, 1] [⟨(some 4), none, false, .mov (.k (.d (.int .i64 0)))⟩])
 (.seq
 (.seq
 (.reg false [0, 1, 7, 8] [⟨(some 6), none, false, .mov (.t 0)⟩,
 ⟨(some 7), none, false, .len false (.t 6)⟩,
 ⟨(some 8), none, false, .mov (.k (.d (.int .i64 0)))⟩])
 (.block 0
 (.loop
 (.seq
 (.reg false [0, 1, 7, 8, 9] [⟨(some 9), none, false, .bin .lss (.t 8) (.t 7)⟩])
 (.seq
 (.cond (.t 9)
 .skip
 (.exit 0))
 (.seq
 (.block 1
 (.seq
 (.reg false [0, 1, 5, 7, 8] [⟨(some 10), none, false, .mov (.t 8)⟩,
 ⟨(some 5), none, false, .mov (.t 10)⟩])
 (.seq
 (.reg false [0, 1, 5, 7, 8, 16] [⟨(some 11), none, false, .mov (.t 1)⟩,
 ⟨(some 12), none, false, .mov (.t 0)⟩,
 ⟨(some 13), none, false, .mov (.t 5)⟩,
 ⟨(some 14), none, false, .ia 1 (.t 12) (.t 13)⟩,
 ⟨(some 15), none, false, .ld none (.t 14)⟩,
 ⟨(some 16), none, true, .callW (.t 11) [(.t 15)]⟩])
 (.cond (.t 16)
 (.seq
 (.reg false [4] [⟨(some 17), none, false, .mov (.t 5)⟩,
 ⟨(some 4), none, false, .mov (.t 17)⟩])
 .ret)
 .skip))))
 (.reg false [0, 1, 7, 8] [⟨(some 18), none, false, .bin .add (.t 8) (.k (.d (.int .i64 1)))⟩,
 ⟨(some 8), none, false, .mov (.t 18)⟩])))))))
 (.seq
 (.reg false [4] [⟨(some 4), none, false, .mov (.k (.d (.int .i64 (-1))))⟩])
 .ret)))
theorem c84 : (Go.Proofs.Tryd.f84).body.bind (comp prog.P (2, (Go.Proofs.Tryd.f84).ntmps) lv84) = some m84 := by kernel_rfl
theorem r84 : resOK prog.P (Go.Proofs.Tryd.f84).results.toList = true := by kernel_rfl

/-- strings.Trim -/
def lv85 : List (Nat × List Nat) := [(0, [0, 1]), (1, [0, 1, 12]), (2, [4]), (3, [0, 1, 21]), (4, [4]), (5, [0, 1, 5, 6]), (6, [0, 1, 5, 34]), (7, [4]), (8, [4])]
def m85 : MC :=
  (.seq
 (.reg false [0, 1] [⟨(some 4), none, false, .mov (.k (.d (.str [])))⟩])
 (.seq
 (.seq
 (.reg false [0, 1, 12] [⟨(some 7), none, false, .mov (.t 0)⟩,
 ⟨(some 8), none, false, .bin .eql (.t 7) (.k (.d (.str [])))⟩,
 ⟨(some 9), none, false, .mov (.t 8)⟩,
 ⟨(some 10), (some (9, false)), false, .mov (.t 1)⟩,
 ⟨(some 11), (some (9, false)), false, .bin .eql (.t 10) (.k (.d (.str [])))⟩,
 ⟨(some 12), none, false, .pick (.t 9) (.k (.d (.bool true))) (.t 11)⟩])
 (.cond (.t 12)
 (.seq
 (.reg false [4] [⟨(some 13), none, false, .mov (.t 0)⟩,
 ⟨(some 4), none, false, .mov (.t 13)⟩])
 .ret)
 .skip))
 (.seq
 (.seq
 (.reg false [0, 1, 21] [⟨(some 14), none, false, .mov (.t 1)⟩,
 ⟨(some 15), none, false, .len true (.t 14)⟩,
 ⟨(some 16), none, false, .bin .eql (.t 15) (.k (.d (.int .i64 1)))⟩,
 ⟨(some 17), none, false, .mov (.t 16)⟩,
 ⟨(some 18), (some (17, true)), false, .mov (.t 1)⟩,
 ⟨(some 19), (some (17, true)), false, .ix (.t 18) (.k (.d (.int .i64 0)))⟩,
 ⟨(some 20), (some (17, true)), false, .bin .lss (.t 19) (.k (.d (.int .u8 128)))⟩,
 ⟨(some 21), none, false, .pick (.t 17) (.t 20) (.k (.d (.bool false)))⟩])
 (.cond (.t 21)
 (.seq
 (.reg true [4] [⟨(some 22), none, false, .mov (.t 0)⟩,
 ⟨(some 23), none, false, .mov (.t 1)⟩,
 ⟨(some 24), none, false, .ix (.t 23) (.k (.d (.int .i64 0)))⟩,
 ⟨(some 25), none, false, .callP 96 [(.t 22), (.t 24)]⟩,
 ⟨(some 26), none, false, .mov (.t 1)⟩,
 ⟨(some 27), none, false, .ix (.t 26) (.k (.d (.int .i64 0)))⟩,
 ⟨(some 28), none, false, .callP 95 [(.t 25), (.t 27)]⟩,
 ⟨(some 4), none, false, .mov (.t 28)⟩])
 .ret)
 .skip))
 (.seq
 (.seq
 (.reg false [0, 1, 5, 6] [⟨(some 30), none, false, .mov (.t 1)⟩,
 ⟨(some 31), none, true, .call 97 [(.t 30)]⟩,
 ⟨(some 29), none, false, .mov (.t 31)⟩,
 ⟨(some 32), none, false, .ext (.t 29) 0⟩,
 ⟨(some 33), none, false, .ext (.t 29) 1⟩,
 ⟨(some 5), none, true, .alloc (.st (ofL (List.replicate 256 (.bool false))))⟩,
 ⟨none, none, true, .st 256 (.t 5) (.t 32)⟩,
 ⟨(some 6), none, false, .mov (.t 33)⟩])
 (.seq
 (.reg false [0, 1, 5, 34] [⟨(some 34), none, false, .mov (.t 6)⟩])
 (.cond (.t 34)
 (.seq
 (.reg false [4] [⟨(some 35), none, false, .mov (.t 0)⟩,
 ⟨(some 36), none, true, .call 99 [(.t 35), (.t 5)]⟩,
 ⟨(some 37), none, true, .call 98 [(.t 36), (.t 5)]⟩,
 ⟨(some 4), none, false, .mov (.t 37)⟩])
 .ret)
 .skip)))
 (.seq
 (.reg false [4] [⟨(some 38), none, false, .mov (.t 0)⟩,
 ⟨(some 39), none, false, .mov (.t 1)⟩,
 ⟨(some 40), none, true, .call 101 [(.t 38), (.t 39)]⟩,
 ⟨(some 41), none, false, .mov (.t 1)⟩,
 ⟨(some 42), none, true, .call 100 [(.t 40), (.t 41)]⟩,
 ⟨(some 4), none, false, .mov (.t 42)⟩])
 .ret)))))
theorem c85 : (Go.Proofs.Tryd.f85).body.bind (comp prog.P (2, (Go.Proofs.Tryd.f85).ntmps) lv85) = some m85 := by kernel_rfl
theorem r85 : resOK prog.P (Go.Proofs.Tryd.f85).results.toList = true := by kernel_rfl

/-- slices.IndexFunc[[]int,int] -/
def lv86 : List (Nat × List Nat) := [(0, [0, 1]), (1, [0, 1, 7, 8]), (2, [0, 1, 7, 8, 9]), (3, [0, 1, 5, 7, 8]), (4, [0, 1, 5, 7, 8, 16]), (5, [4]), (6, [0, 1, 7, 8]), (7, [4])]
def m86 : MC :=
  (.seq
 (.reg false [0, 1] [⟨(some 4), none, false, .mov (.k (.d (.int .i64 0)))⟩])
 (.seq
 (.seq
 (.reg false [0, 1, 7, 8] [⟨(some 6), none, false, .mov (.t 0)⟩,
 ⟨(some 7), none, false, .len false (.t 6)⟩,
 ⟨(some 8), none, false, .mov (.k (.d (.int .i64 0)))⟩])
 (.block 0
 (.loop
 (.seq
 (.reg false [0, 1, 7, 8, 9] [⟨(some 9), none, false, .bin .lss (.t 8) (.t 7)⟩])
 (.seq
 (.cond (.t 9)
 .skip
 (.exit 0))
 (.seq
 (.block 1
 (.seq
 (.reg false [0, 1, 5, 7, 8] [⟨(some 10), none, false, .mov (.t 8)⟩,
 ⟨(some 5), none, false, .mov (.t 10)⟩])
 (.seq
 (.reg false [0, 1, 5, 7, 8, 16] [⟨(some 11), none, false, .mov (.t 1)⟩,
 ⟨(some 12), none, false, .mov (.t 0)⟩,
 ⟨(some 13), none, false, .mov (.t 5)⟩,
 ⟨(some 14), none, false, .ia 1 (.t 12) (.t 13)⟩,
 ⟨(some 15), none, false, .ld none (.t 14)⟩,
 ⟨(some 16), none, true, .callW (.t 11) [(.t 15)]⟩])
 (.cond (.t 16)
 (.seq
 (.reg false [4] [⟨(some 17), none, false, .mov (.t 5)⟩,
 ⟨(some 4), none, false, .mov (.t 17)⟩])
 .ret)
 .skip))))
 (.reg false [0, 1, 7, 8] [⟨(some 18), none, false, .bin .add (.t 8) (.k (.d (.int .i64 1)))⟩,
 ⟨(some 8), none, false, .mov (.t 18)⟩])))))))
 (.seq
 (.reg false [4] [⟨(some 4), none, false, .mov (.k (.d (.int .i64 (-1))))⟩])
 .ret)))
theorem c86 : (Go.Proofs.Tryd.f86).body.bind (comp prog.P (2, (Go.Proofs.Tryd.f86).ntmps) lv86) = some m86 := by kernel_rfl
theorem r86 : resOK prog.P (Go.Proofs.Tryd.f86).results.toList = true := by kernel_rfl

/-- spec.l15Letter -/
def lv94 : List (Nat × List Nat) := [(0, [0]), (1, [2])]
def m94 : MC :=
  (.seq
 (.reg false [0] [⟨(some 2), none, false, .mov (.k (.d (.bool false)))⟩])
 (.seq
 (.reg false [2] [⟨(some 3), none, false, .mov (.t 0)⟩,
 ⟨(some 4), none, false, .bin .geq (.t 3) (.k (.d (.int .u8 97)))⟩,
 ⟨(some 5), none, false, .mov (.t 4)⟩,
 ⟨(some 6), (some (5, true)), false, .mov (.t 0)⟩,
 ⟨(some 7), (some (5, true)), false, .bin .leq (.t 6) (.k (.d (.int .u8 122)))⟩,
 ⟨(some 8), none, false, .pick (.t 5) (.t 7) (.k (.d (.bool false)))⟩,
 ⟨(some 2), none, false, .mov (.t 8)⟩])
 .ret))
theorem c94 : (Go.Proofs.Tryd.f94).body.bind (comp prog.P (1, (Go.Proofs.Tryd.f94).ntmps) lv94) = some m94 := by kernel_rfl
theorem r94 : resOK prog.P (Go.Proofs.Tryd.f94).results.toList = true := by kernel_rfl

/-- strings.trimLeftASCII -/
def lv98 : List (Nat × List Nat) := [(0, [0, 1]), (1, [0, 1, 7]), (2, [0, 1, 12]), (3, [0, 1]), (4, [4])]
def m98 : MC :=
  (.seq
 (.reg false [0, 1] [⟨(some 4), none, false, .mov (.k (.d (.str [])))⟩])
 (.seq
 (.block 0
 (.loop
 (.seq
 (.seq
 (.reg false [0, 1, 7] [⟨(some 5), none, false, .mov (.t 0)⟩,
 ⟨(some 6), none, false, .len true (.t 5)⟩,
 ⟨(some 7), none, false, .bin .gtr (.t 6) (.k (.d (.int .i64 0)))⟩])
 (.cond (.t 7)
 .skip
 (.exit 0)))
 (.block 1
 (.seq
 (.seq
 (.reg false [0, 1, 12] [⟨(some 8), none, false, .mov (.t 1)⟩,
 ⟨(some 9), none, false, .mov (.t 0)⟩,
 ⟨(some 10), none, false, .ix (.t 9) (.k (.d (.int .i64 0)))⟩,
 ⟨(some 11), none, true, .call 109 [(.t 8), (.t 10)]⟩,
 ⟨(some 12), none, false, .un .not (.t 11)⟩])
 (.cond (.t 12)
 (.exit 0)
 .skip))
 (.reg false [0, 1] [⟨(some 13), none, false, .mov (.t 0)⟩,
 ⟨(some 14), none, false, .sls (.t 13) (some (.k (.d (.int .i64 1)))) none⟩,
 ⟨(some 0), none, false, .mov (.t 14)⟩]))))))
 (.seq
 (.reg false [4] [⟨(some 15), none, false, .mov (.t 0)⟩,
 ⟨(some 4), none, false, .mov (.t 15)⟩])
 .ret)))
theorem c98 : (Go.Proofs.Tryd.f98).body.bind (comp prog.P (0, (Go.Proofs.Tryd.f98).ntmps) lv98) = some m98 := by kernel_rfl
theorem r98 : resOK prog.P (Go.Proofs.Tryd.f98).results.toList = true := by kernel_rfl

/-- strings.trimRightASCII -/
def lv99 : List (Nat × List Nat) := [(0, [0, 1]), (1, [0, 1, 7]), (2, [0, 1, 15]), (3, [0, 1]), (4, [4])]
def m99 : MC :=
  (.seq
 (.reg false [0, 1] [⟨(some 4), none, false, .mov (.k (.d (.str [])))⟩])
 (.seq
 (.block 0
 (.loop
 (.seq
 (.seq
 (.reg false [0, 1, 7] [⟨(some 5), none, false, .mov (.t 0)⟩,
 ⟨(some 6), none, false, .len true (.t 5)⟩,
 ⟨(some 7), none, false, .bin .gtr (.t 6) (.k (.d (.int .i64 0)))⟩])
 (.cond (.t 7)
 .skip
 (.exit 0)))
 (.block 1
 (.seq
 (.seq
 (.reg false [0, 1, 15] [⟨(some 8), none, false, .mov (.t 1)⟩,
 ⟨(some 9), none, false, .mov (.t 0)⟩,
 ⟨(some 10), none, false, .mov (.t 0)⟩,
 ⟨(some 11), none, false, .len true (.t 10)⟩,
 ⟨(some 12), none, false, .bin .sub (.t 11) (.k (.d (.int .i64 1)))⟩,
 ⟨(some 13), none, false, .ix (.t 9) (.t 12)⟩,
 ⟨(some 14), none, true, .call 109 [(.t 8), (.t 13)]⟩,
 ⟨(some 15), none, false, .un .not (.t 14)⟩])
 (.cond (.t 15)
 (.exit 0)
 .skip))
 (.reg false [0, 1] [⟨(some 16), none, false, .mov (.t 0)⟩,
 ⟨(some 17), none, false, .mov (.t 0)⟩,
 ⟨(some 18), none, false, .len true (.t 17)⟩,
 ⟨(some 19), none, false, .bin .sub (.t 18) (.k (.d (.int .i64 1)))⟩,
 ⟨(some 20), none, false, .sls (.t 16) none (some (.t 19))⟩,
 ⟨(some 0), none, false, .mov (.t 20)⟩]))))))
 (.seq
 (.reg false [4] [⟨(some 21), none, false, .mov (.t 0)⟩,
 ⟨(some 4), none, false, .mov (.t 21)⟩])
 .ret)))
theorem c99 : (Go.Proofs.Tryd.f99).body.bind (comp prog.P (0, (Go.Proofs.Tryd.f99).ntmps) lv99) = some m99 := by kernel_rfl
theorem r99 : resOK prog.P (Go.Proofs.Tryd.f99).results.toList = true := by kernel_rfl

/-- (*strings.asciiSet).contains -/
def lv109 : List (Nat × List Nat) := [(0, [0, 1]), (1, [0, 4])]
def m109 : MC :=
  (.seq
 (.reg false [0, 1] [⟨(some 4), none, false, .mov (.k (.d (.bool false)))⟩])
 (.seq
 (.reg false [0, 4] [⟨(some 5), none, false, .mov (.t 0)⟩,
 ⟨(some 6), none, false, .mov (.t 1)⟩,
 ⟨(some 7), none, false, .nck (.t 5)⟩,
 ⟨(some 8), none, false, .iar 256 1 (.t 7) (.t 6)⟩,
 ⟨(some 9), none, false, .ld none (.t 8)⟩,
 ⟨(some 4), none, false, .mov (.t 9)⟩])
 .ret))
theorem c109 : (Go.Proofs.Tryd.f109).body.bind (comp prog.P (2, (Go.Proofs.Tryd.f109).ntmps) lv109) = some m109 := by kernel_rfl
theorem r109 : resOK prog.P (Go.Proofs.Tryd.f109).results.toList = true := by kernel_rfl

end Go.Pe.Tryd
