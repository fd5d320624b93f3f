/-
The compact code of the functions that the law reaches, printed by gen.py, each with the proof that the machine's code is compiled to it.
-/
import Derived.Test.YtmklnnagndckpaaGreatDoorMc1
import Derived.Test.YtmklnnagndckpaaGreatDoorProg
import Derived.KernelRfl
set_option maxRecDepth 100000
namespace Go.Pe.Tryz
open Go.Pe

/-- laws.szCase -/
def lv111 : List (Nat × List Nat) := [(0, [1, 2]), (1, [1]), (2, [1, 10]), (3, [4]), (4, [4])]
def m111 : MC :=
  (.seq
 (.reg false [1, 2] [⟨(some 2), none, true, .box (.t 0)⟩,
 ⟨(some 4), none, false, .mov (.k (.d (.int .i64 0)))⟩])
 (.seq
 (.reg false [1] [⟨(some 5), none, false, .fa 3 3 (.t 2)⟩,
 ⟨(some 6), none, false, .ld none (.t 5)⟩,
 ⟨(some 7), none, false, .mov (.t 1)⟩,
 ⟨(some 8), none, true, .call 150 [(.t 6), (.t 7)]⟩,
 ⟨(some 1), none, false, .mov (.t 8)⟩])
 (.seq
 (.seq
 (.reg false [1, 10] [⟨(some 9), none, false, .mov (.t 1)⟩,
 ⟨(some 10), none, false, .bin .lss (.t 9) (.k (.d (.int .i64 0)))⟩])
 (.cond (.t 10)
 (.seq
 (.reg false [4] [⟨(some 4), none, false, .mov (.k (.d (.int .i64 (-1))))⟩])
 .ret)
 .skip))
 (.seq
 (.reg false [4] [⟨(some 11), none, false, .mov (.t 1)⟩,
 ⟨(some 4), none, false, .mov (.t 11)⟩])
 .ret))))
theorem c111 : (Go.Proofs.Tryz.f111).body.bind (comp prog.P (1, (Go.Proofs.Tryz.f111).ntmps) lv111) = some m111 := by kernel_rfl
theorem r111 : resOK prog.P (Go.Proofs.Tryz.f111).results.toList = true := by kernel_rfl

/-- spec.l16Good -/
def lv112 : List (Nat × List Nat) := [(0, [0]), (1, [0, 3]), (2, [0, 3, 7]), (3, [0, 3]), (4, [0, 3, 15]), (5, [2]), (6, [2])]
def m112 : MC :=
  (.seq
 (.reg false [0] [⟨(some 2), none, false, .mov (.k (.d (.bool false)))⟩])
 (.seq
 (.seq
 (.reg false [0, 3] [⟨(some 3), none, false, .mov (.k (.d (.int .i64 0)))⟩])
 (.block 0
 (.loop
 (.seq
 (.seq
 (.reg false [0, 3, 7] [⟨(some 4), none, false, .mov (.t 3)⟩,
 ⟨(some 5), none, false, .mov (.t 0)⟩,
 ⟨(some 6), none, false, .len false (.t 5)⟩,
 ⟨(some 7), none, false, .bin .lss (.t 4) (.t 6)⟩])
 (.cond (.t 7)
 .skip
 (.exit 0)))
 (.seq
 (.block 1
 (.seq
 (.reg false [0, 3, 15] [⟨(some 10), none, false, .mov (.t 0)⟩,
 ⟨(some 11), none, false, .mov (.t 3)⟩,
 ⟨(some 12), none, false, .ia 1 (.t 10) (.t 11)⟩,
 ⟨(some 13), none, false, .ld none (.t 12)⟩,
 ⟨(some 14), none, true, .call 151 [(.t 13)]⟩,
 ⟨(some 15), none, false, .un .not (.t 14)⟩])
 (.cond (.t 15)
 (.seq
 (.reg false [2] [⟨(some 2), none, false, .mov (.k (.d (.bool false)))⟩])
 .ret)
 .skip)))
 (.reg false [0, 3] [⟨(some 8), none, false, .mov (.t 3)⟩,
 ⟨(some 9), none, false, .bin .add (.t 8) (.k (.d (.int .i64 1)))⟩,
 ⟨(some 3), none, false, .mov (.t 9)⟩]))))))
 (.seq
 (.reg false [2] [⟨(some 16), none, false, .mov (.t 0)⟩,
 ⟨(some 17), none, false, .len false (.t 16)⟩,
 ⟨(some 18), none, true, .call 101 [(.t 17), (.k (.d (.int .i64 1))), (.k (.d (.int .i64 8)))]⟩,
 ⟨(some 2), none, false, .mov (.t 18)⟩])
 .ret)))
theorem c112 : (Go.Proofs.Tryz.f112).body.bind (comp prog.P (1, (Go.Proofs.Tryz.f112).ntmps) lv112) = some m112 := by kernel_rfl
theorem r112 : resOK prog.P (Go.Proofs.Tryz.f112).results.toList = true := by kernel_rfl

/-- spec.l25Case -/
def lv113 : List (Nat × List Nat) := [(0, [1]), (1, [2])]
def m113 : MC :=
  (.seq
 (.reg false [1] [⟨(some 1), none, true, .box (.t 0)⟩,
 ⟨(some 2), none, false, .mov (.k (.d (.bool false)))⟩])
 (.seq
 (.reg false [2] [⟨(some 3), none, false, .fa 0 0 (.t 1)⟩,
 ⟨(some 4), none, false, .ld none (.t 3)⟩,
 ⟨(some 5), none, true, .call 101 [(.t 4), (.k (.d (.int .i64 1))), (.k (.d (.int .i64 999)))]⟩,
 ⟨(some 6), none, false, .mov (.t 5)⟩,
 ⟨(some 7), (some (6, true)), false, .fa 1 1 (.t 1)⟩,
 ⟨(some 8), (some (6, true)), false, .ld none (.t 7)⟩,
 ⟨(some 9), (some (6, true)), true, .call 101 [(.t 8), (.k (.d (.int .i64 1))), (.k (.d (.int .i64 3)))]⟩,
 ⟨(some 10), none, false, .pick (.t 6) (.t 9) (.k (.d (.bool false)))⟩,
 ⟨(some 11), none, false, .mov (.t 10)⟩,
 ⟨(some 12), (some (11, true)), false, .fa 2 2 (.t 1)⟩,
 ⟨(some 13), (some (11, true)), false, .ld none (.t 12)⟩,
 ⟨(some 14), (some (11, true)), true, .call 95 [(.t 13)]⟩,
 ⟨(some 15), none, false, .pick (.t 11) (.t 14) (.k (.d (.bool false)))⟩,
 ⟨(some 16), none, false, .mov (.t 15)⟩,
 ⟨(some 17), (some (16, true)), false, .fa 3 3 (.t 1)⟩,
 ⟨(some 18), (some (16, true)), false, .ld none (.t 17)⟩,
 ⟨(some 19), (some (16, true)), false, .len false (.t 18)⟩,
 ⟨(some 20), (some (16, true)), false, .bin .leq (.t 19) (.k (.d (.int .i64 5)))⟩,
 ⟨(some 21), none, false, .pick (.t 16) (.t 20) (.k (.d (.bool false)))⟩,
 ⟨(some 22), none, false, .mov (.t 21)⟩,
 ⟨(some 23), (some (22, true)), false, .fa 3 3 (.t 1)⟩,
 ⟨(some 24), (some (22, true)), false, .ld none (.t 23)⟩,
 ⟨(some 25), (some (22, true)), true, .call 152 [(.t 24), (.k (.d (.int .i64 1))), (.k (.d (.int .i64 9)))]⟩,
 ⟨(some 26), none, false, .pick (.t 22) (.t 25) (.k (.d (.bool false)))⟩,
 ⟨(some 2), none, false, .mov (.t 26)⟩])
 .ret))
theorem c113 : (Go.Proofs.Tryz.f113).body.bind (comp prog.P (1, (Go.Proofs.Tryz.f113).ntmps) lv113) = some m113 := by kernel_rfl
theorem r113 : resOK prog.P (Go.Proofs.Tryz.f113).results.toList = true := by kernel_rfl

/-- laws.toCase -/
def lv118 : List (Nat × List Nat) := [(0, [1, 2]), (1, [1, 2, 3]), (2, [1, 2, 3]), (3, [1, 2, 3]), (4, [1, 2, 3]), (5, [2, 3]), (6, [2])]
def m118 : MC :=
  (.seq
 (.reg false [1, 2] [⟨(some 1), none, true, .box (.t 0)⟩,
 ⟨(some 2), none, true, .alloc (.st (.cons (.int .i64 0) (.cons (.int .i64 0) (.cons (.int .i64 0) (.cons (.sl true 1 .nil) .nil)))))⟩])
 (.seq
 (.reg false [1, 2, 3] [⟨(some 3), none, true, .alloc (.st (.cons (.int .i64 0) (.cons (.int .i64 0) (.cons (.int .i64 0) (.cons (.sl true 1 .nil) .nil)))))⟩])
 (.seq
 (.reg false [1, 2, 3] [⟨(some 4), none, false, .fa 0 0 (.t 1)⟩,
 ⟨(some 5), none, false, .ld none (.t 4)⟩,
 ⟨(some 6), none, false, .fa 0 0 (.t 3)⟩,
 ⟨none, none, true, .st 1 (.t 6) (.t 5)⟩])
 (.seq
 (.reg false [1, 2, 3] [⟨(some 7), none, false, .fa 1 1 (.t 1)⟩,
 ⟨(some 8), none, false, .ld none (.t 7)⟩,
 ⟨(some 9), none, false, .fa 1 1 (.t 3)⟩,
 ⟨none, none, true, .st 1 (.t 9) (.t 8)⟩])
 (.seq
 (.reg false [1, 2, 3] [⟨(some 10), none, false, .fa 2 2 (.t 1)⟩,
 ⟨(some 11), none, false, .ld none (.t 10)⟩,
 ⟨(some 12), none, false, .fa 2 2 (.t 3)⟩,
 ⟨none, none, true, .st 1 (.t 12) (.t 11)⟩])
 (.seq
 (.reg false [2, 3] [⟨(some 13), none, false, .fa 3 3 (.t 1)⟩,
 ⟨(some 14), none, false, .ld none (.t 13)⟩,
 ⟨(some 15), none, true, .call 153 [(.t 14)]⟩,
 ⟨(some 16), none, false, .fa 3 3 (.t 3)⟩,
 ⟨none, none, true, .st 1 (.t 16) (.t 15)⟩])
 (.seq
 (.reg false [2] [⟨(some 17), none, false, .ld (some 4) (.t 3)⟩,
 ⟨none, none, true, .st 4 (.t 2) (.t 17)⟩])
 .ret)))))))
theorem c118 : (Go.Proofs.Tryz.f118).body.bind (comp prog.P (1, (Go.Proofs.Tryz.f118).ntmps) lv118) = some m118 := by kernel_rfl
theorem r118 : resOK prog.P (Go.Proofs.Tryz.f118).results.toList = true := by kernel_rfl

/-- laws.eqCase -/
def lv125 : List (Nat × List Nat) := [(0, [2, 3]), (1, [2, 3, 9]), (2, [4]), (3, [2, 3, 14]), (4, [4]), (5, [2, 3, 19]), (6, [4]), (7, [25]), (8, [4]), (9, [4])]
def m125 : MC :=
  (.seq
 (.reg false [2, 3] [⟨(some 2), none, true, .box (.t 0)⟩,
 ⟨(some 3), none, true, .box (.t 1)⟩,
 ⟨(some 4), none, false, .mov (.k (.d (.bool false)))⟩])
 (.seq
 (.seq
 (.reg false [2, 3, 9] [⟨(some 5), none, false, .fa 0 0 (.t 2)⟩,
 ⟨(some 6), none, false, .ld none (.t 5)⟩,
 ⟨(some 7), none, false, .fa 0 0 (.t 3)⟩,
 ⟨(some 8), none, false, .ld none (.t 7)⟩,
 ⟨(some 9), none, false, .bin .neq (.t 6) (.t 8)⟩])
 (.cond (.t 9)
 (.seq
 (.reg false [4] [⟨(some 4), none, false, .mov (.k (.d (.bool false)))⟩])
 .ret)
 .skip))
 (.seq
 (.seq
 (.reg false [2, 3, 14] [⟨(some 10), none, false, .fa 1 1 (.t 2)⟩,
 ⟨(some 11), none, false, .ld none (.t 10)⟩,
 ⟨(some 12), none, false, .fa 1 1 (.t 3)⟩,
 ⟨(some 13), none, false, .ld none (.t 12)⟩,
 ⟨(some 14), none, false, .bin .neq (.t 11) (.t 13)⟩])
 (.cond (.t 14)
 (.seq
 (.reg false [4] [⟨(some 4), none, false, .mov (.k (.d (.bool false)))⟩])
 .ret)
 .skip))
 (.seq
 (.seq
 (.reg false [2, 3, 19] [⟨(some 15), none, false, .fa 2 2 (.t 2)⟩,
 ⟨(some 16), none, false, .ld none (.t 15)⟩,
 ⟨(some 17), none, false, .fa 2 2 (.t 3)⟩,
 ⟨(some 18), none, false, .ld none (.t 17)⟩,
 ⟨(some 19), none, false, .bin .neq (.t 16) (.t 18)⟩])
 (.cond (.t 19)
 (.seq
 (.reg false [4] [⟨(some 4), none, false, .mov (.k (.d (.bool false)))⟩])
 .ret)
 .skip))
 (.seq
 (.seq
 (.reg false [25] [⟨(some 20), none, false, .fa 3 3 (.t 2)⟩,
 ⟨(some 21), none, false, .ld none (.t 20)⟩,
 ⟨(some 22), none, false, .fa 3 3 (.t 3)⟩,
 ⟨(some 23), none, false, .ld none (.t 22)⟩,
 ⟨(some 24), none, true, .call 159 [(.t 21), (.t 23)]⟩,
 ⟨(some 25), none, false, .un .not (.t 24)⟩])
 (.cond (.t 25)
 (.seq
 (.reg false [4] [⟨(some 4), none, false, .mov (.k (.d (.bool false)))⟩])
 .ret)
 .skip))
 (.seq
 (.reg false [4] [⟨(some 4), none, false, .mov (.k (.d (.bool true)))⟩])
 .ret))))))
theorem c125 : (Go.Proofs.Tryz.f125).body.bind (comp prog.P (2, (Go.Proofs.Tryz.f125).ntmps) lv125) = some m125 := by kernel_rfl
theorem r125 : resOK prog.P (Go.Proofs.Tryz.f125).results.toList = true := by kernel_rfl

/-- slices.ContainsFunc[[]string,string] -/
def lv130 : List (Nat × List Nat) := [(0, [0, 1]), (1, [4])]
def m130 : MC :=
  (.seq
 (.reg false [0, 1] [⟨(some 4), none, false, .mov (.k (.d (.bool false)))⟩])
 (.seq
 (.reg false [4] [⟨(some 5), none, false, .mov (.t 0)⟩,
 ⟨(some 6), none, false, .mov (.t 1)⟩,
 ⟨(some 7), none, true, .call 160 [(.t 5), (.t 6)]⟩,
 ⟨(some 8), none, false, .bin .geq (.t 7) (.k (.d (.int .i64 0)))⟩,
 ⟨(some 4), none, false, .mov (.t 8)⟩])
 .ret))
theorem c130 : (Go.Proofs.Tryz.f130).body.bind (comp prog.P (2, (Go.Proofs.Tryz.f130).ntmps) lv130) = some m130 := by kernel_rfl
theorem r130 : resOK prog.P (Go.Proofs.Tryz.f130).results.toList = true := by kernel_rfl

/-- impl.IsLedger$1 -/
def lv131 : List (Nat × List Nat) := [(0, [0]), (1, [2])]
def m131 : MC :=
  (.seq
 (.reg false [0] [⟨(some 2), none, false, .mov (.k (.d (.bool false)))⟩])
 (.seq
 (.reg false [2] [⟨(some 3), none, false, .mov (.t 0)⟩,
 ⟨(some 4), none, true, .call 132 [(.t 3)]⟩,
 ⟨(some 5), none, false, .un .not (.t 4)⟩,
 ⟨(some 2), none, false, .mov (.t 5)⟩])
 .ret))
theorem c131 : (Go.Proofs.Tryz.f131).body.bind (comp prog.P (1, (Go.Proofs.Tryz.f131).ntmps) lv131) = some m131 := by kernel_rfl
theorem r131 : resOK prog.P (Go.Proofs.Tryz.f131).results.toList = true := by kernel_rfl
theorem en131 : enterOK prog.P 131 = true := by kernel_rfl

/-- impl.isEntry -/
def lv132 : List (Nat × List Nat) := [(0, [0]), (1, [2])]
def m132 : MC :=
  (.seq
 (.reg false [0] [⟨(some 2), none, false, .mov (.k (.d (.bool false)))⟩])
 (.seq
 (.reg false [2] [⟨(some 3), none, false, .mov (.t 0)⟩,
 ⟨(some 4), none, false, .len true (.t 3)⟩,
 ⟨(some 5), none, true, .call 72 [(.t 4), (.k (.d (.int .i64 1))), (.k (.d (.int .i64 40)))]⟩,
 ⟨(some 6), none, false, .mov (.t 5)⟩,
 ⟨(some 7), (some (6, true)), false, .mov (.t 0)⟩,
 ⟨(some 8), (some (6, true)), true, .call 161 [(.t 7), (.k (.d (.str [97, 98, 99, 100, 101, 102, 103, 104, 105, 106, 107, 108, 109, 110, 111, 112, 113, 114, 115, 116, 117, 118, 119, 120, 121, 122, 48, 49, 50, 51, 52, 53, 54, 55, 56, 57, 32, 45])))]⟩,
 ⟨(some 9), (some (6, true)), false, .bin .eql (.t 8) (.k (.d (.str [])))⟩,
 ⟨(some 10), none, false, .pick (.t 6) (.t 9) (.k (.d (.bool false)))⟩,
 ⟨(some 2), none, false, .mov (.t 10)⟩])
 .ret))
theorem c132 : (Go.Proofs.Tryz.f132).body.bind (comp prog.P (1, (Go.Proofs.Tryz.f132).ntmps) lv132) = some m132 := by kernel_rfl
theorem r132 : resOK prog.P (Go.Proofs.Tryz.f132).results.toList = true := by kernel_rfl

/-- impl.isRecordId -/
def lv133 : List (Nat × List Nat) := [(0, [0]), (1, [2])]
def m133 : MC :=
  (.seq
 (.reg false [0] [⟨(some 2), none, false, .mov (.k (.d (.bool false)))⟩])
 (.seq
 (.reg false [2] [⟨(some 3), none, false, .mov (.t 0)⟩,
 ⟨(some 4), none, true, .call 72 [(.t 3), (.k (.d (.int .i64 1))), (.k (.d (.int .i64 999)))]⟩,
 ⟨(some 2), none, false, .mov (.t 4)⟩])
 .ret))
theorem c133 : (Go.Proofs.Tryz.f133).body.bind (comp prog.P (1, (Go.Proofs.Tryz.f133).ntmps) lv133) = some m133 := by kernel_rfl
theorem r133 : resOK prog.P (Go.Proofs.Tryz.f133).results.toList = true := by kernel_rfl

/-- impl.isAct -/
def lv134 : List (Nat × List Nat) := [(0, [0]), (1, [2])]
def m134 : MC :=
  (.seq
 (.reg false [0] [⟨(some 2), none, false, .mov (.k (.d (.bool false)))⟩])
 (.seq
 (.reg false [2] [⟨(some 3), none, false, .mov (.t 0)⟩,
 ⟨(some 4), none, true, .call 72 [(.t 3), (.k (.d (.int .i64 1))), (.k (.d (.int .i64 3)))]⟩,
 ⟨(some 2), none, false, .mov (.t 4)⟩])
 .ret))
theorem c134 : (Go.Proofs.Tryz.f134).body.bind (comp prog.P (1, (Go.Proofs.Tryz.f134).ntmps) lv134) = some m134 := by kernel_rfl
theorem r134 : resOK prog.P (Go.Proofs.Tryz.f134).results.toList = true := by kernel_rfl

/-- impl.areRising -/
def lv135 : List (Nat × List Nat) := [(0, [0]), (1, [0, 3]), (2, [0, 3, 7]), (3, [0, 3]), (4, [0, 3, 19]), (5, [2]), (6, [2])]
def m135 : MC :=
  (.seq
 (.reg false [0] [⟨(some 2), none, false, .mov (.k (.d (.bool false)))⟩])
 (.seq
 (.seq
 (.reg false [0, 3] [⟨(some 3), none, false, .mov (.k (.d (.int .i64 1)))⟩])
 (.block 0
 (.loop
 (.seq
 (.seq
 (.reg false [0, 3, 7] [⟨(some 4), none, false, .mov (.t 3)⟩,
 ⟨(some 5), none, false, .mov (.t 0)⟩,
 ⟨(some 6), none, false, .len false (.t 5)⟩,
 ⟨(some 7), none, false, .bin .lss (.t 4) (.t 6)⟩])
 (.cond (.t 7)
 .skip
 (.exit 0)))
 (.seq
 (.block 1
 (.seq
 (.reg true [0, 3, 19] [⟨(some 10), none, false, .mov (.t 0)⟩,
 ⟨(some 11), none, false, .mov (.t 3)⟩,
 ⟨(some 12), none, false, .bin .sub (.t 11) (.k (.d (.int .i64 1)))⟩,
 ⟨(some 13), none, false, .ia 1 (.t 10) (.t 12)⟩,
 ⟨(some 14), none, false, .ld none (.t 13)⟩,
 ⟨(some 15), none, false, .mov (.t 0)⟩,
 ⟨(some 16), none, false, .mov (.t 3)⟩,
 ⟨(some 17), none, false, .ia 1 (.t 15) (.t 16)⟩,
 ⟨(some 18), none, false, .ld none (.t 17)⟩,
 ⟨(some 19), none, false, .bin .geq (.t 14) (.t 18)⟩])
 (.cond (.t 19)
 (.seq
 (.reg false [2] [⟨(some 2), none, false, .mov (.k (.d (.bool false)))⟩])
 .ret)
 .skip)))
 (.reg false [0, 3] [⟨(some 8), none, false, .mov (.t 3)⟩,
 ⟨(some 9), none, false, .bin .add (.t 8) (.k (.d (.int .i64 1)))⟩,
 ⟨(some 3), none, false, .mov (.t 9)⟩]))))))
 (.seq
 (.reg false [2] [⟨(some 2), none, false, .mov (.k (.d (.bool true)))⟩])
 .ret)))
theorem c135 : (Go.Proofs.Tryz.f135).body.bind (comp prog.P (1, (Go.Proofs.Tryz.f135).ntmps) lv135) = some m135 := by kernel_rfl
theorem r135 : resOK prog.P (Go.Proofs.Tryz.f135).results.toList = true := by kernel_rfl

/-- slices.ContainsFunc[[]int,int] -/
def lv136 : List (Nat × List Nat) := [(0, [0, 1]), (1, [4])]
def m136 : MC :=
  (.seq
 (.reg false [0, 1] [⟨(some 4), none, false, .mov (.k (.d (.bool false)))⟩])
 (.seq
 (.reg false [4] [⟨(some 5), none, false, .mov (.t 0)⟩,
 ⟨(some 6), none, false, .mov (.t 1)⟩,
 ⟨(some 7), none, true, .call 162 [(.t 5), (.t 6)]⟩,
 ⟨(some 8), none, false, .bin .geq (.t 7) (.k (.d (.int .i64 0)))⟩,
 ⟨(some 4), none, false, .mov (.t 8)⟩])
 .ret))
theorem c136 : (Go.Proofs.Tryz.f136).body.bind (comp prog.P (2, (Go.Proofs.Tryz.f136).ntmps) lv136) = some m136 := by kernel_rfl
theorem r136 : resOK prog.P (Go.Proofs.Tryz.f136).results.toList = true := by kernel_rfl

/-- impl.isCase$1 -/
def lv137 : List (Nat × List Nat) := [(0, [0]), (1, [2])]
def m137 : MC :=
  (.seq
 (.reg false [0] [⟨(some 2), none, false, .mov (.k (.d (.bool false)))⟩])
 (.seq
 (.reg false [2] [⟨(some 3), none, false, .mov (.t 0)⟩,
 ⟨(some 4), none, true, .call 98 [(.t 3)]⟩,
 ⟨(some 5), none, false, .un .not (.t 4)⟩,
 ⟨(some 2), none, false, .mov (.t 5)⟩])
 .ret))
theorem c137 : (Go.Proofs.Tryz.f137).body.bind (comp prog.P (1, (Go.Proofs.Tryz.f137).ntmps) lv137) = some m137 := by kernel_rfl
theorem r137 : resOK prog.P (Go.Proofs.Tryz.f137).results.toList = true := by kernel_rfl
theorem en137 : enterOK prog.P 137 = true := by kernel_rfl

/-- spec.l27Open -/
def lv146 : List (Nat × List Nat) := [(0, [0]), (1, [0, 4]), (2, [0, 4, 5]), (3, [0, 4, 5, 18]), (4, [0, 4, 5, 6]), (5, [0, 4, 5, 6, 7, 8]), (6, [0, 4, 5, 6, 7, 38]), (7, [0, 4, 5, 6]), (8, [0, 4, 5]), (9, [2, 3])]
def m146 : MC :=
  (.seq
 (.reg false [0] [⟨(some 2), none, false, .mov (.k .nil)⟩,
 ⟨(some 3), none, false, .mov (.k (.d (.int .i64 0)))⟩])
 (.seq
 (.reg false [0, 4] [⟨(some 9), none, true, .bs 2 0 (.st (.cons (.str []) (.cons (.str []) .nil))) []⟩,
 ⟨(some 4), none, false, .mov (.t 9)⟩])
 (.seq
 (.reg false [0, 4, 5] [⟨(some 5), none, false, .mov (.k (.d (.int .i64 0)))⟩])
 (.seq
 (.block 0
 (.loop
 (.seq
 (.seq
 (.reg false [0, 4, 5, 18] [⟨(some 10), none, false, .mov (.t 5)⟩,
 ⟨(some 11), none, false, .mov (.t 0)⟩,
 ⟨(some 12), none, false, .len true (.t 11)⟩,
 ⟨(some 13), none, false, .bin .lss (.t 10) (.t 12)⟩,
 ⟨(some 14), none, false, .mov (.t 13)⟩,
 ⟨(some 15), (some (14, true)), false, .mov (.t 4)⟩,
 ⟨(some 16), (some (14, true)), false, .len false (.t 15)⟩,
 ⟨(some 17), (some (14, true)), false, .bin .lss (.t 16) (.k (.d (.int .i64 60)))⟩,
 ⟨(some 18), none, false, .pick (.t 14) (.t 17) (.k (.d (.bool false)))⟩])
 (.cond (.t 18)
 .skip
 (.exit 0)))
 (.block 1
 (.seq
 (.reg false [0, 4, 5, 6] [⟨(some 19), none, false, .mov (.t 0)⟩,
 ⟨(some 20), none, false, .mov (.t 5)⟩,
 ⟨(some 21), none, false, .sls (.t 19) (some (.t 20)) none⟩,
 ⟨(some 22), none, true, .call 168 [(.t 21), (.k (.d (.int .u8 10)))]⟩,
 ⟨(some 6), none, false, .mov (.t 22)⟩])
 (.seq
 (.reg false [0, 4, 5, 6, 7, 8] [⟨(some 24), none, false, .mov (.t 6)⟩,
 ⟨(some 25), none, false, .ia 1 (.t 24) (.k (.d (.int .i64 0)))⟩,
 ⟨(some 26), none, false, .ld none (.t 25)⟩,
 ⟨(some 27), none, false, .mov (.t 4)⟩,
 ⟨(some 28), none, false, .len false (.t 27)⟩,
 ⟨(some 29), none, true, .call 169 [(.t 26), (.t 28)]⟩,
 ⟨(some 23), none, false, .mov (.t 29)⟩,
 ⟨(some 30), none, false, .ext (.t 23) 0⟩,
 ⟨(some 31), none, false, .ext (.t 23) 1⟩,
 ⟨(some 7), none, true, .alloc (.st (.cons (.str []) (.cons (.str []) .nil)))⟩,
 ⟨none, none, true, .st 2 (.t 7) (.t 30)⟩,
 ⟨(some 8), none, false, .mov (.t 31)⟩])
 (.seq
 (.seq
 (.reg false [0, 4, 5, 6, 7, 38] [⟨(some 32), none, false, .mov (.t 6)⟩,
 ⟨(some 33), none, false, .len false (.t 32)⟩,
 ⟨(some 34), none, false, .bin .lss (.t 33) (.k (.d (.int .i64 2)))⟩,
 ⟨(some 35), none, false, .mov (.t 34)⟩,
 ⟨(some 36), (some (35, false)), false, .mov (.t 8)⟩,
 ⟨(some 37), (some (35, false)), false, .un .not (.t 36)⟩,
 ⟨(some 38), none, false, .pick (.t 35) (.k (.d (.bool true))) (.t 37)⟩])
 (.cond (.t 38)
 (.exit 0)
 .skip))
 (.seq
 (.reg false [0, 4, 5, 6] [⟨(some 39), none, false, .mov (.t 4)⟩,
 ⟨(some 40), none, false, .ld (some 2) (.t 7)⟩,
 ⟨(some 41), none, true, .bs 2 1 (.st (.cons (.str []) (.cons (.str []) .nil))) [(0, (.t 40))]⟩,
 ⟨(some 42), none, true, .app 2 32 (.t 39) (.t 41)⟩,
 ⟨(some 4), none, false, .mov (.t 42)⟩])
 (.reg false [0, 4, 5] [⟨(some 43), none, false, .mov (.t 5)⟩,
 ⟨(some 44), none, false, .mov (.t 6)⟩,
 ⟨(some 45), none, false, .ia 1 (.t 44) (.k (.d (.int .i64 0)))⟩,
 ⟨(some 46), none, false, .ld none (.t 45)⟩,
 ⟨(some 47), none, false, .len true (.t 46)⟩,
 ⟨(some 48), none, false, .bin .add (.t 43) (.t 47)⟩,
 ⟨(some 49), none, false, .bin .add (.t 48) (.k (.d (.int .i64 1)))⟩,
 ⟨(some 5), none, false, .mov (.t 49)⟩])))))))))
 (.seq
 (.reg false [2, 3] [⟨(some 50), none, false, .mov (.t 4)⟩,
 ⟨(some 51), none, false, .mov (.t 5)⟩,
 ⟨(some 2), none, false, .mov (.t 50)⟩,
 ⟨(some 3), none, false, .mov (.t 51)⟩])
 .ret)))))
theorem c146 : (Go.Proofs.Tryz.f146).body.bind (comp prog.P (1, (Go.Proofs.Tryz.f146).ntmps) lv146) = some m146 := by kernel_rfl
theorem r146 : resOK prog.P (Go.Proofs.Tryz.f146).results.toList = true := by kernel_rfl

/-- impl.readRecords -/
def lv147 : List (Nat × List Nat) := [(0, [0]), (1, [0, 4]), (2, [0, 4, 5]), (3, [0, 4, 5, 22]), (4, [0, 4, 5, 6, 8]), (5, [0, 4, 5, 6, 32]), (6, [0, 4, 5, 6, 9]), (7, [0, 4, 5, 6, 12]), (8, [0, 4, 5, 6, 14, 15]), (9, [0, 4, 5, 6, 17]), (10, [0, 4, 5, 6, 17, 18, 19]), (11, [0, 4, 5, 6, 17, 67]), (12, [0, 4, 5, 6]), (13, [0, 4, 5]), (14, [2, 3])]
def m147 : MC :=
  (.seq
 (.reg false [0] [⟨(some 2), none, false, .mov (.k .nil)⟩,
 ⟨(some 3), none, false, .mov (.k (.d (.int .i64 0)))⟩])
 (.seq
 (.reg false [0, 4] [⟨(some 4), none, false, .mov (.k .nil)⟩])
 (.seq
 (.reg false [0, 4, 5] [⟨(some 5), none, false, .mov (.k (.d (.int .i64 0)))⟩])
 (.seq
 (.block 0
 (.loop
 (.seq
 (.seq
 (.reg false [0, 4, 5, 22] [⟨(some 20), none, false, .mov (.t 4)⟩,
 ⟨(some 21), none, false, .len false (.t 20)⟩,
 ⟨(some 22), none, false, .bin .lss (.t 21) (.k (.d (.int .i64 60)))⟩])
 (.cond (.t 22)
 .skip
 (.exit 0)))
 (.block 1
 (.seq
 (.reg false [0, 4, 5, 6, 8] [⟨(some 24), none, false, .mov (.t 0)⟩,
 ⟨(some 25), none, false, .mov (.t 5)⟩,
 ⟨(some 26), none, false, .sls (.t 24) (some (.t 25)) none⟩,
 ⟨(some 27), none, true, .call 170 [(.t 26), (.k (.d (.str [10])))]⟩,
 ⟨(some 23), none, false, .mov (.t 27)⟩,
 ⟨(some 28), none, false, .ext (.t 23) 0⟩,
 ⟨(some 29), none, false, .ext (.t 23) 1⟩,
 ⟨(some 30), none, false, .ext (.t 23) 2⟩,
 ⟨(some 6), none, false, .mov (.t 28)⟩,
 ⟨(some 7), none, false, .mov (.t 29)⟩,
 ⟨(some 8), none, false, .mov (.t 30)⟩])
 (.seq
 (.seq
 (.reg false [0, 4, 5, 6, 32] [⟨(some 31), none, false, .mov (.t 8)⟩,
 ⟨(some 32), none, false, .un .not (.t 31)⟩])
 (.cond (.t 32)
 (.exit 0)
 .skip))
 (.seq
 (.reg false [0, 4, 5, 6, 9] [⟨(some 34), none, false, .mov (.t 6)⟩,
 ⟨(some 35), none, true, .call 171 [(.t 34)]⟩,
 ⟨(some 33), none, false, .mov (.t 35)⟩,
 ⟨(some 36), none, false, .ext (.t 33) 0⟩,
 ⟨(some 37), none, false, .ext (.t 33) 1⟩,
 ⟨(some 9), none, false, .mov (.t 36)⟩,
 ⟨(some 10), none, false, .mov (.t 37)⟩])
 (.seq
 (.reg false [0, 4, 5, 6, 12] [⟨(some 39), none, false, .mov (.t 9)⟩,
 ⟨(some 40), none, true, .call 170 [(.t 39), (.k (.d (.str [32])))]⟩,
 ⟨(some 38), none, false, .mov (.t 40)⟩,
 ⟨(some 41), none, false, .ext (.t 38) 0⟩,
 ⟨(some 42), none, false, .ext (.t 38) 1⟩,
 ⟨(some 43), none, false, .ext (.t 38) 2⟩,
 ⟨(some 11), none, false, .mov (.t 41)⟩,
 ⟨(some 12), none, false, .mov (.t 42)⟩,
 ⟨(some 13), none, false, .mov (.t 43)⟩])
 (.seq
 (.reg false [0, 4, 5, 6, 14, 15] [⟨(some 45), none, false, .mov (.t 12)⟩,
 ⟨(some 46), none, true, .call 170 [(.t 45), (.k (.d (.str [64])))]⟩,
 ⟨(some 44), none, false, .mov (.t 46)⟩,
 ⟨(some 47), none, false, .ext (.t 44) 0⟩,
 ⟨(some 48), none, false, .ext (.t 44) 1⟩,
 ⟨(some 49), none, false, .ext (.t 44) 2⟩,
 ⟨(some 14), none, false, .mov (.t 47)⟩,
 ⟨(some 15), none, false, .mov (.t 48)⟩,
 ⟨(some 16), none, false, .mov (.t 49)⟩])
 (.seq
 (.reg false [0, 4, 5, 6, 17] [⟨(some 50), none, false, .mov (.t 14)⟩,
 ⟨(some 51), none, false, .mov (.t 15)⟩,
 ⟨(some 52), none, true, .bld (.cons (.str []) (.cons (.str []) .nil)) [(0, (.t 50)), (1, (.t 51))]⟩,
 ⟨(some 17), none, true, .alloc (.st (.cons (.str []) (.cons (.str []) .nil)))⟩,
 ⟨none, none, true, .st 2 (.t 17) (.t 52)⟩])
 (.seq
 (.seq
 (.reg false [0, 4, 5, 6, 17, 18, 19] [⟨(some 54), none, false, .mov (.t 4)⟩,
 ⟨(some 55), none, false, .len false (.t 54)⟩,
 ⟨(some 56), none, false, .ld (some 2) (.t 17)⟩,
 ⟨(some 57), none, true, .call 172 [(.t 55), (.t 56)]⟩,
 ⟨(some 53), none, false, .mov (.t 57)⟩,
 ⟨(some 58), none, false, .ext (.t 53) 0⟩,
 ⟨(some 59), none, false, .ext (.t 53) 1⟩,
 ⟨(some 18), none, false, .mov (.t 58)⟩,
 ⟨(some 19), none, false, .mov (.t 59)⟩])
 (.seq
 (.reg false [0, 4, 5, 6, 17, 67] [⟨(some 60), none, false, .mov (.t 19)⟩,
 ⟨(some 61), none, false, .un .not (.t 60)⟩,
 ⟨(some 62), none, false, .mov (.t 61)⟩,
 ⟨(some 63), (some (62, false)), false, .mov (.t 18)⟩,
 ⟨(some 64), (some (62, false)), false, .mov (.t 6)⟩,
 ⟨(some 65), (some (62, false)), false, .bin .add (.t 64) (.k (.d (.str [10])))⟩,
 ⟨(some 66), (some (62, false)), false, .bin .neq (.t 63) (.t 65)⟩,
 ⟨(some 67), none, false, .pick (.t 62) (.k (.d (.bool true))) (.t 66)⟩])
 (.cond (.t 67)
 (.exit 0)
 .skip)))
 (.seq
 (.reg false [0, 4, 5, 6] [⟨(some 68), none, false, .mov (.t 4)⟩,
 ⟨(some 69), none, false, .ld (some 2) (.t 17)⟩,
 ⟨(some 70), none, true, .bs 2 1 (.st (.cons (.str []) (.cons (.str []) .nil))) [(0, (.t 69))]⟩,
 ⟨(some 71), none, true, .app 2 32 (.t 68) (.t 70)⟩,
 ⟨(some 4), none, false, .mov (.t 71)⟩])
 (.reg false [0, 4, 5] [⟨(some 72), none, false, .mov (.t 5)⟩,
 ⟨(some 73), none, false, .mov (.t 6)⟩,
 ⟨(some 74), none, false, .len true (.t 73)⟩,
 ⟨(some 75), none, false, .bin .add (.t 74) (.k (.d (.int .i64 1)))⟩,
 ⟨(some 76), none, false, .bin .add (.t 72) (.t 75)⟩,
 ⟨(some 5), none, false, .mov (.t 76)⟩])))))))))))))
 (.seq
 (.reg false [2, 3] [⟨(some 77), none, false, .mov (.t 4)⟩,
 ⟨(some 78), none, false, .mov (.t 5)⟩,
 ⟨(some 2), none, false, .mov (.t 77)⟩,
 ⟨(some 3), none, false, .mov (.t 78)⟩])
 .ret)))))
theorem c147 : (Go.Proofs.Tryz.f147).body.bind (comp prog.P (1, (Go.Proofs.Tryz.f147).ntmps) lv147) = some m147 := by kernel_rfl
theorem r147 : resOK prog.P (Go.Proofs.Tryz.f147).results.toList = true := by kernel_rfl

/-- laws.szIntS -/
def lv150 : List (Nat × List Nat) := [(0, [0, 1]), (1, [1]), (2, [1, 10]), (3, [4]), (4, [4])]
def m150 : MC :=
  (.seq
 (.reg false [0, 1] [⟨(some 4), none, false, .mov (.k (.d (.int .i64 0)))⟩])
 (.seq
 (.reg false [1] [⟨(some 5), none, false, .mov (.t 1)⟩,
 ⟨(some 6), none, false, .mov (.t 0)⟩,
 ⟨(some 7), none, false, .len false (.t 6)⟩,
 ⟨(some 8), none, false, .bin .sub (.t 5) (.t 7)⟩,
 ⟨(some 1), none, false, .mov (.t 8)⟩])
 (.seq
 (.seq
 (.reg false [1, 10] [⟨(some 9), none, false, .mov (.t 1)⟩,
 ⟨(some 10), none, false, .bin .lss (.t 9) (.k (.d (.int .i64 0)))⟩])
 (.cond (.t 10)
 (.seq
 (.reg false [4] [⟨(some 4), none, false, .mov (.k (.d (.int .i64 (-1))))⟩])
 .ret)
 .skip))
 (.seq
 (.reg false [4] [⟨(some 11), none, false, .mov (.t 1)⟩,
 ⟨(some 4), none, false, .mov (.t 11)⟩])
 .ret))))
theorem c150 : (Go.Proofs.Tryz.f150).body.bind (comp prog.P (1, (Go.Proofs.Tryz.f150).ntmps) lv150) = some m150 := by kernel_rfl
theorem r150 : resOK prog.P (Go.Proofs.Tryz.f150).results.toList = true := by kernel_rfl

/-- spec.l16Entry -/
def lv151 : List (Nat × List Nat) := [(0, [0]), (1, [0, 3]), (2, [0, 3, 8]), (3, [0, 3]), (4, [0, 3, 4]), (5, [0, 3, 33]), (6, [2]), (7, [2])]
def m151 : MC :=
  (.seq
 (.reg false [0] [⟨(some 2), none, false, .mov (.k (.d (.bool false)))⟩])
 (.seq
 (.seq
 (.reg false [0, 3] [⟨(some 3), none, false, .mov (.k (.d (.int .i64 0)))⟩])
 (.block 0
 (.loop
 (.seq
 (.seq
 (.reg false [0, 3, 8] [⟨(some 5), none, false, .mov (.t 3)⟩,
 ⟨(some 6), none, false, .mov (.t 0)⟩,
 ⟨(some 7), none, false, .len true (.t 6)⟩,
 ⟨(some 8), none, false, .bin .lss (.t 5) (.t 7)⟩])
 (.cond (.t 8)
 .skip
 (.exit 0)))
 (.seq
 (.block 1
 (.seq
 (.reg false [0, 3, 4] [⟨(some 11), none, false, .mov (.t 0)⟩,
 ⟨(some 12), none, false, .mov (.t 3)⟩,
 ⟨(some 13), none, false, .ix (.t 11) (.t 12)⟩,
 ⟨(some 4), none, false, .mov (.t 13)⟩])
 (.seq
 (.reg false [0, 3, 33] [⟨(some 14), none, false, .mov (.t 4)⟩,
 ⟨(some 15), none, true, .call 177 [(.t 14)]⟩,
 ⟨(some 16), none, false, .un .not (.t 15)⟩,
 ⟨(some 17), none, false, .mov (.t 16)⟩,
 ⟨(some 18), (some (17, true)), false, .mov (.t 4)⟩,
 ⟨(some 19), (some (17, true)), false, .bin .geq (.t 18) (.k (.d (.int .u8 48)))⟩,
 ⟨(some 20), (some (17, true)), false, .mov (.t 19)⟩,
 ⟨(some 21), (some (20, true)), false, .mov (.t 4)⟩,
 ⟨(some 22), (some (20, true)), false, .bin .leq (.t 21) (.k (.d (.int .u8 57)))⟩,
 ⟨(some 23), (some (17, true)), false, .pick (.t 20) (.t 22) (.k (.d (.bool false)))⟩,
 ⟨(some 24), (some (17, true)), false, .un .not (.t 23)⟩,
 ⟨(some 25), none, false, .pick (.t 17) (.t 24) (.k (.d (.bool false)))⟩,
 ⟨(some 26), none, false, .mov (.t 25)⟩,
 ⟨(some 27), (some (26, true)), false, .mov (.t 4)⟩,
 ⟨(some 28), (some (26, true)), false, .bin .neq (.t 27) (.k (.d (.int .u8 32)))⟩,
 ⟨(some 29), none, false, .pick (.t 26) (.t 28) (.k (.d (.bool false)))⟩,
 ⟨(some 30), none, false, .mov (.t 29)⟩,
 ⟨(some 31), (some (30, true)), false, .mov (.t 4)⟩,
 ⟨(some 32), (some (30, true)), false, .bin .neq (.t 31) (.k (.d (.int .u8 45)))⟩,
 ⟨(some 33), none, false, .pick (.t 30) (.t 32) (.k (.d (.bool false)))⟩])
 (.cond (.t 33)
 (.seq
 (.reg false [2] [⟨(some 2), none, false, .mov (.k (.d (.bool false)))⟩])
 .ret)
 .skip))))
 (.reg false [0, 3] [⟨(some 9), none, false, .mov (.t 3)⟩,
 ⟨(some 10), none, false, .bin .add (.t 9) (.k (.d (.int .i64 1)))⟩,
 ⟨(some 3), none, false, .mov (.t 10)⟩]))))))
 (.seq
 (.reg false [2] [⟨(some 34), none, false, .mov (.t 0)⟩,
 ⟨(some 35), none, false, .len true (.t 34)⟩,
 ⟨(some 36), none, true, .call 101 [(.t 35), (.k (.d (.int .i64 1))), (.k (.d (.int .i64 40)))]⟩,
 ⟨(some 2), none, false, .mov (.t 36)⟩])
 .ret)))
theorem c151 : (Go.Proofs.Tryz.f151).body.bind (comp prog.P (1, (Go.Proofs.Tryz.f151).ntmps) lv151) = some m151 := by kernel_rfl
theorem r151 : resOK prog.P (Go.Proofs.Tryz.f151).results.toList = true := by kernel_rfl

/-- spec.l1Rising -/
def lv152 : List (Nat × List Nat) := [(0, [0, 1, 2]), (1, [0, 1, 2, 7]), (2, [0, 1, 2, 7, 11]), (3, [0, 1, 2, 7]), (4, [0, 1, 2, 7, 37]), (5, [6]), (6, [6])]
def m152 : MC :=
  (.seq
 (.reg false [0, 1, 2] [⟨(some 6), none, false, .mov (.k (.d (.bool false)))⟩])
 (.seq
 (.seq
 (.reg false [0, 1, 2, 7] [⟨(some 7), none, false, .mov (.k (.d (.int .i64 0)))⟩])
 (.block 0
 (.loop
 (.seq
 (.seq
 (.reg false [0, 1, 2, 7, 11] [⟨(some 8), none, false, .mov (.t 7)⟩,
 ⟨(some 9), none, false, .mov (.t 0)⟩,
 ⟨(some 10), none, false, .len false (.t 9)⟩,
 ⟨(some 11), none, false, .bin .lss (.t 8) (.t 10)⟩])
 (.cond (.t 11)
 .skip
 (.exit 0)))
 (.seq
 (.block 1
 (.seq
 (.reg true [0, 1, 2, 7, 37] [⟨(some 14), none, false, .mov (.t 0)⟩,
 ⟨(some 15), none, false, .mov (.t 7)⟩,
 ⟨(some 16), none, false, .ia 1 (.t 14) (.t 15)⟩,
 ⟨(some 17), none, false, .ld none (.t 16)⟩,
 ⟨(some 18), none, false, .mov (.t 1)⟩,
 ⟨(some 19), none, false, .mov (.t 2)⟩,
 ⟨(some 20), none, false, .callP 101 [(.t 17), (.t 18), (.t 19)]⟩,
 ⟨(some 21), none, false, .un .not (.t 20)⟩,
 ⟨(some 22), none, false, .mov (.t 21)⟩,
 ⟨(some 23), (some (22, false)), false, .mov (.t 7)⟩,
 ⟨(some 24), (some (22, false)), false, .bin .gtr (.t 23) (.k (.d (.int .i64 0)))⟩,
 ⟨(some 25), (some (22, false)), false, .mov (.t 24)⟩,
 ⟨(some 26), (some (25, true)), false, .mov (.t 0)⟩,
 ⟨(some 27), (some (25, true)), false, .mov (.t 7)⟩,
 ⟨(some 28), (some (25, true)), false, .bin .sub (.t 27) (.k (.d (.int .i64 1)))⟩,
 ⟨(some 29), (some (25, true)), false, .ia 1 (.t 26) (.t 28)⟩,
 ⟨(some 30), (some (25, true)), false, .ld none (.t 29)⟩,
 ⟨(some 31), (some (25, true)), false, .mov (.t 0)⟩,
 ⟨(some 32), (some (25, true)), false, .mov (.t 7)⟩,
 ⟨(some 33), (some (25, true)), false, .ia 1 (.t 31) (.t 32)⟩,
 ⟨(some 34), (some (25, true)), false, .ld none (.t 33)⟩,
 ⟨(some 35), (some (25, true)), false, .bin .geq (.t 30) (.t 34)⟩,
 ⟨(some 36), (some (22, false)), false, .pick (.t 25) (.t 35) (.k (.d (.bool false)))⟩,
 ⟨(some 37), none, false, .pick (.t 22) (.k (.d (.bool true))) (.t 36)⟩])
 (.cond (.t 37)
 (.seq
 (.reg false [6] [⟨(some 6), none, false, .mov (.k (.d (.bool false)))⟩])
 .ret)
 .skip)))
 (.reg false [0, 1, 2, 7] [⟨(some 12), none, false, .mov (.t 7)⟩,
 ⟨(some 13), none, false, .bin .add (.t 12) (.k (.d (.int .i64 1)))⟩,
 ⟨(some 7), none, false, .mov (.t 13)⟩]))))))
 (.seq
 (.reg false [6] [⟨(some 6), none, false, .mov (.k (.d (.bool true)))⟩])
 .ret)))
theorem c152 : (Go.Proofs.Tryz.f152).body.bind (comp prog.P (3, (Go.Proofs.Tryz.f152).ntmps) lv152) = some m152 := by kernel_rfl
theorem r152 : resOK prog.P (Go.Proofs.Tryz.f152).results.toList = true := by kernel_rfl

/-- laws.toIntS -/
def lv153 : List (Nat × List Nat) := [(0, [0]), (1, [0, 3]), (2, [0, 3, 4]), (3, [0, 3, 4, 11]), (4, [0, 3, 4]), (5, [0, 3, 4]), (6, [2])]
def m153 : MC :=
  (.seq
 (.reg false [0] [⟨(some 2), none, false, .mov (.k .nil)⟩])
 (.seq
 (.reg false [0, 3] [⟨(some 5), none, false, .mov (.t 0)⟩,
 ⟨(some 6), none, false, .len false (.t 5)⟩,
 ⟨(some 7), none, true, .mk 1 8 (.int .i64 0) (.t 6)⟩,
 ⟨(some 3), none, false, .mov (.t 7)⟩])
 (.seq
 (.seq
 (.reg false [0, 3, 4] [⟨(some 4), none, false, .mov (.k (.d (.int .i64 0)))⟩])
 (.block 0
 (.loop
 (.seq
 (.seq
 (.reg false [0, 3, 4, 11] [⟨(some 8), none, false, .mov (.t 4)⟩,
 ⟨(some 9), none, false, .mov (.t 0)⟩,
 ⟨(some 10), none, false, .len false (.t 9)⟩,
 ⟨(some 11), none, false, .bin .lss (.t 8) (.t 10)⟩])
 (.cond (.t 11)
 .skip
 (.exit 0)))
 (.seq
 (.block 1
 (.reg false [0, 3, 4] [⟨(some 14), none, false, .mov (.t 3)⟩,
 ⟨(some 15), none, false, .mov (.t 4)⟩,
 ⟨(some 16), none, false, .mov (.t 0)⟩,
 ⟨(some 17), none, false, .mov (.t 4)⟩,
 ⟨(some 18), none, false, .ia 1 (.t 16) (.t 17)⟩,
 ⟨(some 19), none, false, .ld none (.t 18)⟩,
 ⟨(some 20), none, false, .ia 1 (.t 14) (.t 15)⟩,
 ⟨none, none, true, .st 1 (.t 20) (.t 19)⟩]))
 (.reg false [0, 3, 4] [⟨(some 12), none, false, .mov (.t 4)⟩,
 ⟨(some 13), none, false, .bin .add (.t 12) (.k (.d (.int .i64 1)))⟩,
 ⟨(some 4), none, false, .mov (.t 13)⟩]))))))
 (.seq
 (.reg false [2] [⟨(some 21), none, false, .mov (.t 3)⟩,
 ⟨(some 2), none, false, .mov (.t 21)⟩])
 .ret))))
theorem c153 : (Go.Proofs.Tryz.f153).body.bind (comp prog.P (1, (Go.Proofs.Tryz.f153).ntmps) lv153) = some m153 := by kernel_rfl
theorem r153 : resOK prog.P (Go.Proofs.Tryz.f153).results.toList = true := by kernel_rfl

/-- laws.eqIntS -/
def lv159 : List (Nat × List Nat) := [(0, [0, 1]), (1, [0, 1, 10]), (2, [4]), (3, [0, 1, 5]), (4, [0, 1, 5, 14]), (5, [0, 1, 5]), (6, [0, 1, 5, 25]), (7, [4]), (8, [4])]
def m159 : MC :=
  (.seq
 (.reg false [0, 1] [⟨(some 4), none, false, .mov (.k (.d (.bool false)))⟩])
 (.seq
 (.seq
 (.reg false [0, 1, 10] [⟨(some 6), none, false, .mov (.t 0)⟩,
 ⟨(some 7), none, false, .len false (.t 6)⟩,
 ⟨(some 8), none, false, .mov (.t 1)⟩,
 ⟨(some 9), none, false, .len false (.t 8)⟩,
 ⟨(some 10), none, false, .bin .neq (.t 7) (.t 9)⟩])
 (.cond (.t 10)
 (.seq
 (.reg false [4] [⟨(some 4), none, false, .mov (.k (.d (.bool false)))⟩])
 .ret)
 .skip))
 (.seq
 (.seq
 (.reg false [0, 1, 5] [⟨(some 5), none, false, .mov (.k (.d (.int .i64 0)))⟩])
 (.block 0
 (.loop
 (.seq
 (.seq
 (.reg false [0, 1, 5, 14] [⟨(some 11), none, false, .mov (.t 5)⟩,
 ⟨(some 12), none, false, .mov (.t 0)⟩,
 ⟨(some 13), none, false, .len false (.t 12)⟩,
 ⟨(some 14), none, false, .bin .lss (.t 11) (.t 13)⟩])
 (.cond (.t 14)
 .skip
 (.exit 0)))
 (.seq
 (.block 1
 (.seq
 (.reg true [0, 1, 5, 25] [⟨(some 17), none, false, .mov (.t 0)⟩,
 ⟨(some 18), none, false, .mov (.t 5)⟩,
 ⟨(some 19), none, false, .ia 1 (.t 17) (.t 18)⟩,
 ⟨(some 20), none, false, .ld none (.t 19)⟩,
 ⟨(some 21), none, false, .mov (.t 1)⟩,
 ⟨(some 22), none, false, .mov (.t 5)⟩,
 ⟨(some 23), none, false, .ia 1 (.t 21) (.t 22)⟩,
 ⟨(some 24), none, false, .ld none (.t 23)⟩,
 ⟨(some 25), none, false, .bin .neq (.t 20) (.t 24)⟩])
 (.cond (.t 25)
 (.seq
 (.reg false [4] [⟨(some 4), none, false, .mov (.k (.d (.bool false)))⟩])
 .ret)
 .skip)))
 (.reg false [0, 1, 5] [⟨(some 15), none, false, .mov (.t 5)⟩,
 ⟨(some 16), none, false, .bin .add (.t 15) (.k (.d (.int .i64 1)))⟩,
 ⟨(some 5), none, false, .mov (.t 16)⟩]))))))
 (.seq
 (.reg false [4] [⟨(some 4), none, false, .mov (.k (.d (.bool true)))⟩])
 .ret))))
theorem c159 : (Go.Proofs.Tryz.f159).body.bind (comp prog.P (2, (Go.Proofs.Tryz.f159).ntmps) lv159) = some m159 := by kernel_rfl
theorem r159 : resOK prog.P (Go.Proofs.Tryz.f159).results.toList = true := by kernel_rfl

/-- slices.IndexFunc[[]string,string] -/
def lv160 : List (Nat × List Nat) := [(0, [0, 1]), (1, [0, 1, 7, 8]), (2, [0, 1, 7, 8, 9]), (3, [0, 1, 5, 7, 8]), (4, [0, 1, 5, 7, 8, 16]), (5, [4]), (6, [0, 1, 7, 8]), (7, [4])]
def m160 : MC :=
  (.seq
 (.reg false [0, 1] [⟨(some 4), none, false, .mov (.k (.d (.int .i64 0)))⟩])
 (.seq
 (.seq
 (.reg false [0, 1, 7, 8] [⟨(some 6), none, false, .mov (.t 0)⟩,
 ⟨(some 7), none, false, .len false (.t 6)⟩,
 ⟨(some 8), none, false, .mov (.k (.d (.int .i64 0)))⟩])
 (.block 0
 (.loop
 (.seq
 (.reg false [0, 1, 7, 8, 9] [⟨(some 9), none, false, .bin .lss (.t 8) (.t 7)⟩])
 (.seq
 (.cond (.t 9)
 .skip
 (.exit 0))
 (.seq
 (.block 1
 (.seq
 (.reg false [0, 1, 5, 7, 8] [⟨(some 10), none, false, .mov (.t 8)⟩,
 ⟨(some 5), none, false, .mov (.t 10)⟩])
 (.seq
 (.reg false [0, 1, 5, 7, 8, 16] [⟨(some 11), none, false, .mov (.t 1)⟩,
 ⟨(some 12), none, false, .mov (.t 0)⟩,
 ⟨(some 13), none, false, .mov (.t 5)⟩,
 ⟨(some 14), none, false, .ia 1 (.t 12) (.t 13)⟩,
 ⟨(some 15), none, false, .ld none (.t 14)⟩,
 ⟨(some 16), none, true, .callW (.t 11) [(.t 15)]⟩])
 (.cond (.t 16)
 (.seq
 (.reg false [4] [⟨(some 17), none, false, .mov (.t 5)⟩,
 ⟨(some 4), none, false, .mov (.t 17)⟩])
 .ret)
 .skip))))
 (.reg false [0, 1, 7, 8] [⟨(some 18), none, false, .bin .add (.t 8) (.k (.d (.int .i64 1)))⟩,
 ⟨(some 8), none, false, .mov (.t 18)⟩])))))))
 (.seq
 (.reg false [4] [⟨(some 4), none, false, .mov (.k (.d (.int .i64 (-1))))⟩])
 .ret)))
theorem c160 : (Go.Proofs.Tryz.f160).body.bind (comp prog.P (2, (Go.Proofs.Tryz.f160).ntmps) lv160) = some m160 := by kernel_rfl
theorem r160 : resOK prog.P (Go.Proofs.Tryz.f160).results.toList = true := by kernel_rfl

/-- strings.Trim -/
def lv161 : List (Nat × List Nat) := [(0, [0, 1]), (1, [0, 1, 12]), (2, [4]), (3, [0, 1, 21]), (4, [4]), (5, [0, 1, 5, 6]), (6, [0, 1, 5, 34]), (7, [4]), (8, [4])]
def m161 : MC :=
  (.seq
 (.reg false [0, 1] [⟨(some 4), none, false, .mov (.k (.d (.str [])))⟩])
 (.seq
 (.seq
 (.reg false [0, 1, 12] [⟨(some 7), none, false, .mov (.t 0)⟩,
 ⟨(some 8), none, false, .bin .eql (.t 7) (.k (.d (.str [])))⟩,
 ⟨(some 9), none, false, .mov (.t 8)⟩,
 ⟨(some 10), (some (9, false)), false, .mov (.t 1)⟩,
 ⟨(some 11), (some (9, false)), false, .bin .eql (.t 10) (.k (.d (.str [])))⟩,
 ⟨(some 12), none, false, .pick (.t 9) (.k (.d (.bool true))) (.t 11)⟩])
 (.cond (.t 12)
 (.seq
 (.reg false [4] [⟨(some 13), none, false, .mov (.t 0)⟩,
 ⟨(some 4), none, false, .mov (.t 13)⟩])
 .ret)
 .skip))
 (.seq
 (.seq
 (.reg false [0, 1, 21] [⟨(some 14), none, false, .mov (.t 1)⟩,
 ⟨(some 15), none, false, .len true (.t 14)⟩,
 ⟨(some 16), none, false, .bin .eql (.t 15) (.k (.d (.int .i64 1)))⟩,
 ⟨(some 17), none, false, .mov (.t 16)⟩,
 ⟨(some 18), (some (17, true)), false, .mov (.t 1)⟩,
 ⟨(some 19), (some (17, true)), false, .ix (.t 18) (.k (.d (.int .i64 0)))⟩,
 ⟨(some 20), (some (17, true)), false, .bin .lss (.t 19) (.k (.d (.int .u8 128)))⟩,
 ⟨(some 21), none, false, .pick (.t 17) (.t 20) (.k (.d (.bool false)))⟩])
 (.cond (.t 21)
 (.seq
 (.reg true [4] [⟨(some 22), none, false, .mov (.t 0)⟩,
 ⟨(some 23), none, false, .mov (.t 1)⟩,
 ⟨(some 24), none, false, .ix (.t 23) (.k (.d (.int .i64 0)))⟩,
 ⟨(some 25), none, false, .callP 183 [(.t 22), (.t 24)]⟩,
 ⟨(some 26), none, false, .mov (.t 1)⟩,
 ⟨(some 27), none, false, .ix (.t 26) (.k (.d (.int .i64 0)))⟩,
 ⟨(some 28), none, false, .callP 182 [(.t 25), (.t 27)]⟩,
 ⟨(some 4), none, false, .mov (.t 28)⟩])
 .ret)
 .skip))
 (.seq
 (.seq
 (.reg false [0, 1, 5, 6] [⟨(some 30), none, false, .mov (.t 1)⟩,
 ⟨(some 31), none, true, .call 184 [(.t 30)]⟩,
 ⟨(some 29), none, false, .mov (.t 31)⟩,
 ⟨(some 32), none, false, .ext (.t 29) 0⟩,
 ⟨(some 33), none, false, .ext (.t 29) 1⟩,
 ⟨(some 5), none, true, .alloc (.st (ofL (List.replicate 256 (.bool false))))⟩,
 ⟨none, none, true, .st 256 (.t 5) (.t 32)⟩,
 ⟨(some 6), none, false, .mov (.t 33)⟩])
 (.seq
 (.reg false [0, 1, 5, 34] [⟨(some 34), none, false, .mov (.t 6)⟩])
 (.cond (.t 34)
 (.seq
 (.reg false [4] [⟨(some 35), none, false, .mov (.t 0)⟩,
 ⟨(some 36), none, true, .call 186 [(.t 35), (.t 5)]⟩,
 ⟨(some 37), none, true, .call 185 [(.t 36), (.t 5)]⟩,
 ⟨(some 4), none, false, .mov (.t 37)⟩])
 .ret)
 .skip)))
 (.seq
 (.reg false [4] [⟨(some 38), none, false, .mov (.t 0)⟩,
 ⟨(some 39), none, false, .mov (.t 1)⟩,
 ⟨(some 40), none, true, .call 188 [(.t 38), (.t 39)]⟩,
 ⟨(some 41), none, false, .mov (.t 1)⟩,
 ⟨(some 42), none, true, .call 187 [(.t 40), (.t 41)]⟩,
 ⟨(some 4), none, false, .mov (.t 42)⟩])
 .ret)))))
theorem c161 : (Go.Proofs.Tryz.f161).body.bind (comp prog.P (2, (Go.Proofs.Tryz.f161).ntmps) lv161) = some m161 := by kernel_rfl
theorem r161 : resOK prog.P (Go.Proofs.Tryz.f161).results.toList = true := by kernel_rfl

/-- slices.IndexFunc[[]int,int] -/
def lv162 : List (Nat × List Nat) := [(0, [0, 1]), (1, [0, 1, 7, 8]), (2, [0, 1, 7, 8, 9]), (3, [0, 1, 5, 7, 8]), (4, [0, 1, 5, 7, 8, 16]), (5, [4]), (6, [0, 1, 7, 8]), (7, [4])]
def m162 : MC :=
  (.seq
 (.reg false [0, 1] [⟨(some 4), none, false, .mov (.k (.d (.int .i64 0)))⟩])
 (.seq
 (.seq
 (.reg false [0, 1, 7, 8] [⟨(some 6), none, false, .mov (.t 0)⟩,
 ⟨(some 7), none, false, .len false (.t 6)⟩,
 ⟨(some 8), none, false, .mov (.k (.d (.int .i64 0)))⟩])
 (.block 0
 (.loop
 (.seq
 (.reg false [0, 1, 7, 8, 9] [⟨(some 9), none, false, .bin .lss (.t 8) (.t 7)⟩])
 (.seq
 (.cond (.t 9)
 .skip
 (.exit 0))
 (.seq
 (.block 1
 (.seq
 (.reg false [0, 1, 5, 7, 8] [⟨(some 10), none, false, .mov (.t 8)⟩,
 ⟨(some 5), none, false, .mov (.t 10)⟩])
 (.seq
 (.reg false [0, 1, 5, 7, 8, 16] [⟨(some 11), none, false, .mov (.t 1)⟩,
 ⟨(some 12), none, false, .mov (.t 0)⟩,
 ⟨(some 13), none, false, .mov (.t 5)⟩,
 ⟨(some 14), none, false, .ia 1 (.t 12) (.t 13)⟩,
 ⟨(some 15), none, false, .ld none (.t 14)⟩,
 ⟨(some 16), none, true, .callW (.t 11) [(.t 15)]⟩])
 (.cond (.t 16)
 (.seq
 (.reg false [4] [⟨(some 17), none, false, .mov (.t 5)⟩,
 ⟨(some 4), none, false, .mov (.t 17)⟩])
 .ret)
 .skip))))
 (.reg false [0, 1, 7, 8] [⟨(some 18), none, false, .bin .add (.t 8) (.k (.d (.int .i64 1)))⟩,
 ⟨(some 8), none, false, .mov (.t 18)⟩])))))))
 (.seq
 (.reg false [4] [⟨(some 4), none, false, .mov (.k (.d (.int .i64 (-1))))⟩])
 .ret)))
theorem c162 : (Go.Proofs.Tryz.f162).body.bind (comp prog.P (2, (Go.Proofs.Tryz.f162).ntmps) lv162) = some m162 := by kernel_rfl
theorem r162 : resOK prog.P (Go.Proofs.Tryz.f162).results.toList = true := by kernel_rfl

/-- spec.l1Split -/
def lv168 : List (Nat × List Nat) := [(0, [0, 1]), (1, [0, 1, 5]), (2, [0, 1, 5, 6]), (3, [0, 1, 5, 6, 7]), (4, [0, 1, 5, 6, 7, 12]), (5, [0, 1, 5, 6, 7]), (6, [0, 1, 5, 6, 7, 19]), (7, [0, 1, 5, 7]), (8, [0, 1, 5, 6, 7]), (9, [4])]
def m168 : MC :=
  (.seq
 (.reg false [0, 1] [⟨(some 4), none, false, .mov (.k .nil)⟩])
 (.seq
 (.reg false [0, 1, 5] [⟨(some 8), none, true, .bs 1 0 (.str []) []⟩,
 ⟨(some 5), none, false, .mov (.t 8)⟩])
 (.seq
 (.reg false [0, 1, 5, 6] [⟨(some 6), none, false, .mov (.k (.d (.int .i64 0)))⟩])
 (.seq
 (.seq
 (.reg false [0, 1, 5, 6, 7] [⟨(some 7), none, false, .mov (.k (.d (.int .i64 0)))⟩])
 (.block 0
 (.loop
 (.seq
 (.seq
 (.reg false [0, 1, 5, 6, 7, 12] [⟨(some 9), none, false, .mov (.t 7)⟩,
 ⟨(some 10), none, false, .mov (.t 0)⟩,
 ⟨(some 11), none, false, .len true (.t 10)⟩,
 ⟨(some 12), none, false, .bin .lss (.t 9) (.t 11)⟩])
 (.cond (.t 12)
 .skip
 (.exit 0)))
 (.seq
 (.block 1
 (.seq
 (.reg false [0, 1, 5, 6, 7, 19] [⟨(some 15), none, false, .mov (.t 0)⟩,
 ⟨(some 16), none, false, .mov (.t 7)⟩,
 ⟨(some 17), none, false, .ix (.t 15) (.t 16)⟩,
 ⟨(some 18), none, false, .mov (.t 1)⟩,
 ⟨(some 19), none, false, .bin .eql (.t 17) (.t 18)⟩])
 (.cond (.t 19)
 (.seq
 (.reg false [0, 1, 5, 7] [⟨(some 20), none, false, .mov (.t 5)⟩,
 ⟨(some 21), none, false, .mov (.t 0)⟩,
 ⟨(some 22), none, false, .mov (.t 6)⟩,
 ⟨(some 23), none, false, .mov (.t 7)⟩,
 ⟨(some 24), none, false, .sls (.t 21) (some (.t 22)) (some (.t 23))⟩,
 ⟨(some 25), none, true, .bs 1 1 (.str []) [(0, (.t 24))]⟩,
 ⟨(some 26), none, true, .app 1 16 (.t 20) (.t 25)⟩,
 ⟨(some 5), none, false, .mov (.t 26)⟩])
 (.reg false [0, 1, 5, 6, 7] [⟨(some 27), none, false, .mov (.t 7)⟩,
 ⟨(some 28), none, false, .bin .add (.t 27) (.k (.d (.int .i64 1)))⟩,
 ⟨(some 6), none, false, .mov (.t 28)⟩]))
 .skip)))
 (.reg false [0, 1, 5, 6, 7] [⟨(some 13), none, false, .mov (.t 7)⟩,
 ⟨(some 14), none, false, .bin .add (.t 13) (.k (.d (.int .i64 1)))⟩,
 ⟨(some 7), none, false, .mov (.t 14)⟩]))))))
 (.seq
 (.reg false [4] [⟨(some 29), none, false, .mov (.t 5)⟩,
 ⟨(some 30), none, false, .mov (.t 0)⟩,
 ⟨(some 31), none, false, .mov (.t 6)⟩,
 ⟨(some 32), none, false, .sls (.t 30) (some (.t 31)) none⟩,
 ⟨(some 33), none, true, .bs 1 1 (.str []) [(0, (.t 32))]⟩,
 ⟨(some 34), none, true, .app 1 16 (.t 29) (.t 33)⟩,
 ⟨(some 4), none, false, .mov (.t 34)⟩])
 .ret)))))
theorem c168 : (Go.Proofs.Tryz.f168).body.bind (comp prog.P (2, (Go.Proofs.Tryz.f168).ntmps) lv168) = some m168 := by kernel_rfl
theorem r168 : resOK prog.P (Go.Proofs.Tryz.f168).results.toList = true := by kernel_rfl

/-- spec.l27Read -/
def lv169 : List (Nat × List Nat) := [(0, [0, 1, 4]), (1, [0, 1, 4, 6]), (2, [0, 1, 4, 6, 7]), (3, [0, 1, 4, 6, 7, 30]), (4, [4, 5]), (5, [0, 1, 4, 8]), (6, [0, 1, 4, 8, 9]), (7, [0, 1, 4, 8, 9, 44]), (8, [4, 5]), (9, [0, 1, 4, 10]), (10, [4, 5]), (1000010, [2, 11, 12, 1, 0, 2, 1, 2, 2, 1, 3, 1, 4, 1, 7, 1, 8, 2, 5, 2, 6, 1, 9, 1, 10, 2, 11, 2, 12, 0])]
def m169 : MC :=
  (.seq
 (.reg false [0, 1, 4] [⟨(some 4), none, true, .alloc (.st (.cons (.str []) (.cons (.str []) .nil)))⟩,
 ⟨(some 5), none, false, .mov (.k (.d (.bool false)))⟩])
 (.seq
 (.reg false [0, 1, 4, 6] [⟨(some 11), none, false, .mov (.t 1)⟩,
 ⟨(some 12), none, true, .call 61 [(.t 11)]⟩,
 ⟨(some 13), none, false, .bin .add (.t 12) (.k (.d (.str [32])))⟩,
 ⟨(some 6), none, false, .mov (.t 13)⟩])
 (.seq
 (.reg false [0, 1, 4, 6, 7] [⟨(some 14), none, false, .mov (.t 0)⟩,
 ⟨(some 15), none, true, .call 168 [(.t 14), (.k (.d (.int .u8 35)))]⟩,
 ⟨(some 16), none, false, .ia 1 (.t 15) (.k (.d (.int .i64 0)))⟩,
 ⟨(some 17), none, false, .ld none (.t 16)⟩,
 ⟨(some 7), none, false, .mov (.t 17)⟩])
 (.seq
 (.seq
 (.reg false [0, 1, 4, 6, 7, 30] [⟨(some 18), none, false, .mov (.t 7)⟩,
 ⟨(some 19), none, false, .len true (.t 18)⟩,
 ⟨(some 20), none, false, .mov (.t 6)⟩,
 ⟨(some 21), none, false, .len true (.t 20)⟩,
 ⟨(some 22), none, false, .bin .lss (.t 19) (.t 21)⟩,
 ⟨(some 23), none, false, .mov (.t 22)⟩,
 ⟨(some 24), (some (23, false)), false, .mov (.t 7)⟩,
 ⟨(some 25), (some (23, false)), false, .mov (.t 6)⟩,
 ⟨(some 26), (some (23, false)), false, .len true (.t 25)⟩,
 ⟨(some 27), (some (23, false)), false, .sls (.t 24) none (some (.t 26))⟩,
 ⟨(some 28), (some (23, false)), false, .mov (.t 6)⟩,
 ⟨(some 29), (some (23, false)), false, .bin .neq (.t 27) (.t 28)⟩,
 ⟨(some 30), none, false, .pick (.t 23) (.k (.d (.bool true))) (.t 29)⟩])
 (.cond (.t 30)
 (.seq
 (.reg false [4, 5] [⟨(some 31), none, true, .bld (.cons (.str []) (.cons (.str []) .nil)) []⟩,
 ⟨none, none, true, .st 2 (.t 4) (.t 31)⟩,
 ⟨(some 5), none, false, .mov (.k (.d (.bool false)))⟩])
 .ret)
 .skip))
 (.seq
 (.reg false [0, 1, 4, 8] [⟨(some 32), none, false, .mov (.t 7)⟩,
 ⟨(some 33), none, false, .mov (.t 6)⟩,
 ⟨(some 34), none, false, .len true (.t 33)⟩,
 ⟨(some 35), none, false, .sls (.t 32) (some (.t 34)) none⟩,
 ⟨(some 8), none, false, .mov (.t 35)⟩])
 (.seq
 (.reg false [0, 1, 4, 8, 9] [⟨(some 36), none, false, .mov (.t 8)⟩,
 ⟨(some 37), none, true, .call 168 [(.t 36), (.k (.d (.int .u8 64)))]⟩,
 ⟨(some 38), none, false, .ia 1 (.t 37) (.k (.d (.int .i64 0)))⟩,
 ⟨(some 39), none, false, .ld none (.t 38)⟩,
 ⟨(some 9), none, false, .mov (.t 39)⟩])
 (.seq
 (.seq
 (.reg false [0, 1, 4, 8, 9, 44] [⟨(some 40), none, false, .mov (.t 9)⟩,
 ⟨(some 41), none, false, .len true (.t 40)⟩,
 ⟨(some 42), none, false, .mov (.t 8)⟩,
 ⟨(some 43), none, false, .len true (.t 42)⟩,
 ⟨(some 44), none, false, .bin .eql (.t 41) (.t 43)⟩])
 (.cond (.t 44)
 (.seq
 (.reg false [4, 5] [⟨(some 45), none, true, .bld (.cons (.str []) (.cons (.str []) .nil)) []⟩,
 ⟨none, none, true, .st 2 (.t 4) (.t 45)⟩,
 ⟨(some 5), none, false, .mov (.k (.d (.bool false)))⟩])
 .ret)
 .skip))
 (.seq
 (.reg false [0, 1, 4, 10] [⟨(some 46), none, false, .mov (.t 9)⟩,
 ⟨(some 47), none, false, .mov (.t 8)⟩,
 ⟨(some 48), none, false, .mov (.t 9)⟩,
 ⟨(some 49), none, false, .len true (.t 48)⟩,
 ⟨(some 50), none, false, .bin .add (.t 49) (.k (.d (.int .i64 1)))⟩,
 ⟨(some 51), none, false, .sls (.t 47) (some (.t 50)) none⟩,
 ⟨(some 52), none, true, .bld (.cons (.str []) (.cons (.str []) .nil)) [(0, (.t 46)), (1, (.t 51))]⟩,
 ⟨(some 10), none, true, .alloc (.st (.cons (.str []) (.cons (.str []) .nil)))⟩,
 ⟨none, none, true, .st 2 (.t 10) (.t 52)⟩])
 (.seq
 (.any [11, 12] [4, 5] (.q 0 ⟨(some 53), none, false, .ld (some 2) (.t 10)⟩ (.e 1 ⟨(some 54), none, false, .ld (some 2) (.t 10)⟩ (.e 2 ⟨(some 55), none, true, .call 192 [(.t 54)]⟩ (.q 3 ⟨(some 56), none, false, .mov (.t 55)⟩ (.q 4 ⟨(some 57), (some (56, true)), false, .mov (.t 1)⟩ (.q 7 ⟨(some 60), (some (56, true)), false, .mov (.t 0)⟩ (.q 8 ⟨(some 61), (some (56, true)), false, .bin .add (.t 60) (.k (.d (.str [10])))⟩ (.e 5 ⟨(some 58), (some (56, true)), false, .ld (some 2) (.t 10)⟩ (.e 6 ⟨(some 59), (some (56, true)), true, .call 193 [(.t 57), (.t 58)]⟩ (.q 9 ⟨(some 62), (some (56, true)), false, .bin .eql (.t 59) (.t 61)⟩ (.q 10 ⟨(some 63), none, false, .pick (.t 56) (.t 62) (.k (.d (.bool false)))⟩ (.e 11 ⟨none, none, true, .st 2 (.t 4) (.t 53)⟩ (.e 12 ⟨(some 5), none, false, .mov (.t 63)⟩ .done))))))))))))))
 .ret)))))))))
theorem c169 : (Go.Proofs.Tryz.f169).body.bind (comp prog.P (2, (Go.Proofs.Tryz.f169).ntmps) lv169) = some m169 := by kernel_rfl
theorem r169 : resOK prog.P (Go.Proofs.Tryz.f169).results.toList = true := by kernel_rfl

/-- impl.VerifyChecksum -/
def lv171 : List (Nat × List Nat) := [(0, [0]), (1, [0, 4]), (2, [0, 4, 7, 8]), (3, [4, 26]), (4, [2, 3]), (5, [2, 3])]
def m171 : MC :=
  (.seq
 (.reg false [0] [⟨(some 2), none, false, .mov (.k (.d (.str [])))⟩,
 ⟨(some 3), none, false, .mov (.k (.d (.bool false)))⟩])
 (.seq
 (.reg false [0, 4] [⟨(some 10), none, false, .mov (.t 0)⟩,
 ⟨(some 11), none, true, .call 170 [(.t 10), (.k (.d (.str [35])))]⟩,
 ⟨(some 9), none, false, .mov (.t 11)⟩,
 ⟨(some 12), none, false, .ext (.t 9) 0⟩,
 ⟨(some 13), none, false, .ext (.t 9) 1⟩,
 ⟨(some 14), none, false, .ext (.t 9) 2⟩,
 ⟨(some 4), none, false, .mov (.t 12)⟩,
 ⟨(some 5), none, false, .mov (.t 13)⟩,
 ⟨(some 6), none, false, .mov (.t 14)⟩])
 (.seq
 (.seq
 (.reg false [0, 4, 7, 8] [⟨(some 16), none, false, .mov (.t 4)⟩,
 ⟨(some 17), none, true, .call 195 [(.t 16)]⟩,
 ⟨(some 15), none, false, .mov (.t 17)⟩,
 ⟨(some 18), none, false, .ext (.t 15) 0⟩,
 ⟨(some 19), none, false, .ext (.t 15) 1⟩,
 ⟨(some 7), none, false, .mov (.t 18)⟩,
 ⟨(some 8), none, false, .mov (.t 19)⟩])
 (.seq
 (.reg false [4, 26] [⟨(some 20), none, false, .mov (.t 8)⟩,
 ⟨(some 21), none, false, .un .not (.t 20)⟩,
 ⟨(some 22), none, false, .mov (.t 21)⟩,
 ⟨(some 23), (some (22, false)), false, .mov (.t 7)⟩,
 ⟨(some 24), (some (22, false)), false, .mov (.t 0)⟩,
 ⟨(some 25), (some (22, false)), false, .bin .neq (.t 23) (.t 24)⟩,
 ⟨(some 26), none, false, .pick (.t 22) (.k (.d (.bool true))) (.t 25)⟩])
 (.cond (.t 26)
 (.seq
 (.reg false [2, 3] [⟨(some 2), none, false, .mov (.k (.d (.str [])))⟩,
 ⟨(some 3), none, false, .mov (.k (.d (.bool false)))⟩])
 .ret)
 .skip)))
 (.seq
 (.reg false [2, 3] [⟨(some 27), none, false, .mov (.t 4)⟩,
 ⟨(some 2), none, false, .mov (.t 27)⟩,
 ⟨(some 3), none, false, .mov (.k (.d (.bool true)))⟩])
 .ret))))
theorem c171 : (Go.Proofs.Tryz.f171).body.bind (comp prog.P (1, (Go.Proofs.Tryz.f171).ntmps) lv171) = some m171 := by kernel_rfl
theorem r171 : resOK prog.P (Go.Proofs.Tryz.f171).results.toList = true := by kernel_rfl

/-- impl.EncodeRecord -/
def lv172 : List (Nat × List Nat) := [(0, [0, 3]), (1, [0, 3, 15]), (2, [4, 5]), (3, [6, 7]), (4, [4, 5])]
def m172 : MC :=
  (.seq
 (.reg false [0, 3] [⟨(some 3), none, true, .box (.t 1)⟩,
 ⟨(some 4), none, false, .mov (.k (.d (.str [])))⟩,
 ⟨(some 5), none, false, .mov (.k (.d (.bool false)))⟩])
 (.seq
 (.seq
 (.reg false [0, 3, 15] [⟨(some 8), none, false, .mov (.t 0)⟩,
 ⟨(some 9), none, true, .call 72 [(.t 8), (.k (.d (.int .i64 0))), (.k (.d (.int .i64 59)))]⟩,
 ⟨(some 10), none, false, .un .not (.t 9)⟩,
 ⟨(some 11), none, false, .mov (.t 10)⟩,
 ⟨(some 12), (some (11, false)), false, .ld (some 2) (.t 3)⟩,
 ⟨(some 13), (some (11, false)), true, .call 196 [(.t 12)]⟩,
 ⟨(some 14), (some (11, false)), false, .un .not (.t 13)⟩,
 ⟨(some 15), none, false, .pick (.t 11) (.k (.d (.bool true))) (.t 14)⟩])
 (.cond (.t 15)
 (.seq
 (.reg false [4, 5] [⟨(some 4), none, false, .mov (.k (.d (.str [])))⟩,
 ⟨(some 5), none, false, .mov (.k (.d (.bool false)))⟩])
 .ret)
 .skip))
 (.seq
 (.reg true [6, 7] [⟨(some 17), none, false, .mov (.t 0)⟩,
 ⟨(some 18), none, false, .callP 63 [(.t 17)]⟩,
 ⟨(some 19), none, false, .bin .add (.t 18) (.k (.d (.str [32])))⟩,
 ⟨(some 20), none, false, .fa 0 0 (.t 3)⟩,
 ⟨(some 21), none, false, .ld none (.t 20)⟩,
 ⟨(some 22), none, false, .bin .add (.t 19) (.t 21)⟩,
 ⟨(some 23), none, false, .bin .add (.t 22) (.k (.d (.str [64])))⟩,
 ⟨(some 24), none, false, .fa 1 1 (.t 3)⟩,
 ⟨(some 25), none, false, .ld none (.t 24)⟩,
 ⟨(some 26), none, false, .bin .add (.t 23) (.t 25)⟩,
 ⟨(some 27), none, false, .callP 195 [(.t 26)]⟩,
 ⟨(some 16), none, false, .mov (.t 27)⟩,
 ⟨(some 28), none, false, .ext (.t 16) 0⟩,
 ⟨(some 29), none, false, .ext (.t 16) 1⟩,
 ⟨(some 6), none, false, .mov (.t 28)⟩,
 ⟨(some 7), none, false, .mov (.t 29)⟩])
 (.seq
 (.reg false [4, 5] [⟨(some 30), none, false, .mov (.t 6)⟩,
 ⟨(some 31), none, false, .bin .add (.t 30) (.k (.d (.str [10])))⟩,
 ⟨(some 32), none, false, .mov (.t 7)⟩,
 ⟨(some 4), none, false, .mov (.t 31)⟩,
 ⟨(some 5), none, false, .mov (.t 32)⟩])
 .ret))))
theorem c172 : (Go.Proofs.Tryz.f172).body.bind (comp prog.P (2, (Go.Proofs.Tryz.f172).ntmps) lv172) = some m172 := by kernel_rfl
theorem r172 : resOK prog.P (Go.Proofs.Tryz.f172).results.toList = true := by kernel_rfl

/-- spec.l15Letter -/
def lv177 : List (Nat × List Nat) := [(0, [0]), (1, [2])]
def m177 : MC :=
  (.seq
 (.reg false [0] [⟨(some 2), none, false, .mov (.k (.d (.bool false)))⟩])
 (.seq
 (.reg false [2] [⟨(some 3), none, false, .mov (.t 0)⟩,
 ⟨(some 4), none, false, .bin .geq (.t 3) (.k (.d (.int .u8 97)))⟩,
 ⟨(some 5), none, false, .mov (.t 4)⟩,
 ⟨(some 6), (some (5, true)), false, .mov (.t 0)⟩,
 ⟨(some 7), (some (5, true)), false, .bin .leq (.t 6) (.k (.d (.int .u8 122)))⟩,
 ⟨(some 8), none, false, .pick (.t 5) (.t 7) (.k (.d (.bool false)))⟩,
 ⟨(some 2), none, false, .mov (.t 8)⟩])
 .ret))
theorem c177 : (Go.Proofs.Tryz.f177).body.bind (comp prog.P (1, (Go.Proofs.Tryz.f177).ntmps) lv177) = some m177 := by kernel_rfl
theorem r177 : resOK prog.P (Go.Proofs.Tryz.f177).results.toList = true := by kernel_rfl

/-- strings.trimLeftASCII -/
def lv185 : List (Nat × List Nat) := [(0, [0, 1]), (1, [0, 1, 7]), (2, [0, 1, 12]), (3, [0, 1]), (4, [4])]
def m185 : MC :=
  (.seq
 (.reg false [0, 1] [⟨(some 4), none, false, .mov (.k (.d (.str [])))⟩])
 (.seq
 (.block 0
 (.loop
 (.seq
 (.seq
 (.reg false [0, 1, 7] [⟨(some 5), none, false, .mov (.t 0)⟩,
 ⟨(some 6), none, false, .len true (.t 5)⟩,
 ⟨(some 7), none, false, .bin .gtr (.t 6) (.k (.d (.int .i64 0)))⟩])
 (.cond (.t 7)
 .skip
 (.exit 0)))
 (.block 1
 (.seq
 (.seq
 (.reg false [0, 1, 12] [⟨(some 8), none, false, .mov (.t 1)⟩,
 ⟨(some 9), none, false, .mov (.t 0)⟩,
 ⟨(some 10), none, false, .ix (.t 9) (.k (.d (.int .i64 0)))⟩,
 ⟨(some 11), none, true, .call 215 [(.t 8), (.t 10)]⟩,
 ⟨(some 12), none, false, .un .not (.t 11)⟩])
 (.cond (.t 12)
 (.exit 0)
 .skip))
 (.reg false [0, 1] [⟨(some 13), none, false, .mov (.t 0)⟩,
 ⟨(some 14), none, false, .sls (.t 13) (some (.k (.d (.int .i64 1)))) none⟩,
 ⟨(some 0), none, false, .mov (.t 14)⟩]))))))
 (.seq
 (.reg false [4] [⟨(some 15), none, false, .mov (.t 0)⟩,
 ⟨(some 4), none, false, .mov (.t 15)⟩])
 .ret)))
theorem c185 : (Go.Proofs.Tryz.f185).body.bind (comp prog.P (0, (Go.Proofs.Tryz.f185).ntmps) lv185) = some m185 := by kernel_rfl
theorem r185 : resOK prog.P (Go.Proofs.Tryz.f185).results.toList = true := by kernel_rfl

/-- strings.trimRightASCII -/
def lv186 : List (Nat × List Nat) := [(0, [0, 1]), (1, [0, 1, 7]), (2, [0, 1, 15]), (3, [0, 1]), (4, [4])]
def m186 : MC :=
  (.seq
 (.reg false [0, 1] [⟨(some 4), none, false, .mov (.k (.d (.str [])))⟩])
 (.seq
 (.block 0
 (.loop
 (.seq
 (.seq
 (.reg false [0, 1, 7] [⟨(some 5), none, false, .mov (.t 0)⟩,
 ⟨(some 6), none, false, .len true (.t 5)⟩,
 ⟨(some 7), none, false, .bin .gtr (.t 6) (.k (.d (.int .i64 0)))⟩])
 (.cond (.t 7)
 .skip
 (.exit 0)))
 (.block 1
 (.seq
 (.seq
 (.reg false [0, 1, 15] [⟨(some 8), none, false, .mov (.t 1)⟩,
 ⟨(some 9), none, false, .mov (.t 0)⟩,
 ⟨(some 10), none, false, .mov (.t 0)⟩,
 ⟨(some 11), none, false, .len true (.t 10)⟩,
 ⟨(some 12), none, false, .bin .sub (.t 11) (.k (.d (.int .i64 1)))⟩,
 ⟨(some 13), none, false, .ix (.t 9) (.t 12)⟩,
 ⟨(some 14), none, true, .call 215 [(.t 8), (.t 13)]⟩,
 ⟨(some 15), none, false, .un .not (.t 14)⟩])
 (.cond (.t 15)
 (.exit 0)
 .skip))
 (.reg false [0, 1] [⟨(some 16), none, false, .mov (.t 0)⟩,
 ⟨(some 17), none, false, .mov (.t 0)⟩,
 ⟨(some 18), none, false, .len true (.t 17)⟩,
 ⟨(some 19), none, false, .bin .sub (.t 18) (.k (.d (.int .i64 1)))⟩,
 ⟨(some 20), none, false, .sls (.t 16) none (some (.t 19))⟩,
 ⟨(some 0), none, false, .mov (.t 20)⟩]))))))
 (.seq
 (.reg false [4] [⟨(some 21), none, false, .mov (.t 0)⟩,
 ⟨(some 4), none, false, .mov (.t 21)⟩])
 .ret)))
theorem c186 : (Go.Proofs.Tryz.f186).body.bind (comp prog.P (0, (Go.Proofs.Tryz.f186).ntmps) lv186) = some m186 := by kernel_rfl
theorem r186 : resOK prog.P (Go.Proofs.Tryz.f186).results.toList = true := by kernel_rfl

/-- spec.l1Sum -/
def lv191 : List (Nat × List Nat) := [(0, [0]), (1, [0, 3]), (2, [0, 3, 4]), (3, [0, 3, 4, 8]), (4, [0, 3, 4]), (5, [0, 3, 4]), (6, [2])]
def m191 : MC :=
  (.seq
 (.reg false [0] [⟨(some 2), none, false, .mov (.k (.d (.int .i64 0)))⟩])
 (.seq
 (.reg false [0, 3] [⟨(some 3), none, false, .mov (.k (.d (.int .i64 7)))⟩])
 (.seq
 (.seq
 (.reg false [0, 3, 4] [⟨(some 4), none, false, .mov (.k (.d (.int .i64 0)))⟩])
 (.block 0
 (.loop
 (.seq
 (.seq
 (.reg false [0, 3, 4, 8] [⟨(some 5), none, false, .mov (.t 4)⟩,
 ⟨(some 6), none, false, .mov (.t 0)⟩,
 ⟨(some 7), none, false, .len true (.t 6)⟩,
 ⟨(some 8), none, false, .bin .lss (.t 5) (.t 7)⟩])
 (.cond (.t 8)
 .skip
 (.exit 0)))
 (.seq
 (.block 1
 (.reg false [0, 3, 4] [⟨(some 11), none, false, .mov (.t 3)⟩,
 ⟨(some 12), none, false, .bin .mul (.k (.d (.int .i64 41))) (.t 11)⟩,
 ⟨(some 13), none, false, .mov (.t 0)⟩,
 ⟨(some 14), none, false, .mov (.t 4)⟩,
 ⟨(some 15), none, false, .ix (.t 13) (.t 14)⟩,
 ⟨(some 16), none, false, .conv .i64 (.t 15)⟩,
 ⟨(some 17), none, false, .bin .add (.t 12) (.t 16)⟩,
 ⟨(some 18), none, false, .bin .add (.t 17) (.k (.d (.int .i64 1)))⟩,
 ⟨(some 19), none, false, .bin .rem (.t 18) (.k (.d (.int .i64 999979)))⟩,
 ⟨(some 3), none, false, .mov (.t 19)⟩]))
 (.reg false [0, 3, 4] [⟨(some 9), none, false, .mov (.t 4)⟩,
 ⟨(some 10), none, false, .bin .add (.t 9) (.k (.d (.int .i64 1)))⟩,
 ⟨(some 4), none, false, .mov (.t 10)⟩]))))))
 (.seq
 (.reg false [2] [⟨(some 20), none, false, .mov (.t 3)⟩,
 ⟨(some 2), none, false, .mov (.t 20)⟩])
 .ret))))
theorem c191 : (Go.Proofs.Tryz.f191).body.bind (comp prog.P (1, (Go.Proofs.Tryz.f191).ntmps) lv191) = some m191 := by kernel_rfl
theorem r191 : resOK prog.P (Go.Proofs.Tryz.f191).results.toList = true := by kernel_rfl

end Go.Pe.Tryz
