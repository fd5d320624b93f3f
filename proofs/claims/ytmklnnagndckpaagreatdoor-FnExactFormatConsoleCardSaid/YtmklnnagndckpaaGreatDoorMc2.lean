/-
The compact code of the functions that the law reaches, printed by gen.py, each with the proof that the machine's code is compiled to it.
-/
import Derived.Test.YtmklnnagndckpaaGreatDoorMc1
import Derived.Test.YtmklnnagndckpaaGreatDoorProg
import Derived.KernelRfl
set_option maxRecDepth 100000
namespace Go.Pe.Tryz
open Go.Pe

/-- laws.toStringS -/
def lv71 : List (Nat × List Nat) := [(0, [0]), (1, [0, 3]), (2, [0, 3, 4]), (3, [0, 3, 4, 11]), (4, [0, 3, 4]), (5, [0, 3, 4]), (6, [2])]
def m71 : MC :=
  (.seq
 (.reg false [0] [⟨(some 2), none, false, .mov (.k .nil)⟩])
 (.seq
 (.reg false [0, 3] [⟨(some 5), none, false, .mov (.t 0)⟩,
 ⟨(some 6), none, false, .len false (.t 5)⟩,
 ⟨(some 7), none, true, .mk 1 16 (.str []) (.t 6)⟩,
 ⟨(some 3), none, false, .mov (.t 7)⟩])
 (.seq
 (.seq
 (.reg false [0, 3, 4] [⟨(some 4), none, false, .mov (.k (.d (.int .i64 0)))⟩])
 (.block 0
 (.loop
 (.seq
 (.seq
 (.reg false [0, 3, 4, 11] [⟨(some 8), none, false, .mov (.t 4)⟩,
 ⟨(some 9), none, false, .mov (.t 0)⟩,
 ⟨(some 10), none, false, .len false (.t 9)⟩,
 ⟨(some 11), none, false, .bin .lss (.t 8) (.t 10)⟩])
 (.cond (.t 11)
 .skip
 (.exit 0)))
 (.seq
 (.block 1
 (.reg false [0, 3, 4] [⟨(some 14), none, false, .mov (.t 3)⟩,
 ⟨(some 15), none, false, .mov (.t 4)⟩,
 ⟨(some 16), none, false, .mov (.t 0)⟩,
 ⟨(some 17), none, false, .mov (.t 4)⟩,
 ⟨(some 18), none, false, .ia 1 (.t 16) (.t 17)⟩,
 ⟨(some 19), none, false, .ld none (.t 18)⟩,
 ⟨(some 20), none, false, .ia 1 (.t 14) (.t 15)⟩,
 ⟨none, none, true, .st 1 (.t 20) (.t 19)⟩]))
 (.reg false [0, 3, 4] [⟨(some 12), none, false, .mov (.t 4)⟩,
 ⟨(some 13), none, false, .bin .add (.t 12) (.k (.d (.int .i64 1)))⟩,
 ⟨(some 4), none, false, .mov (.t 13)⟩]))))))
 (.seq
 (.reg false [2] [⟨(some 21), none, false, .mov (.t 3)⟩,
 ⟨(some 2), none, false, .mov (.t 21)⟩])
 .ret))))
theorem c71 : (Go.Proofs.Tryz.f71).body.bind (comp prog.P (1, (Go.Proofs.Tryz.f71).ntmps) lv71) = some m71 := by kernel_rfl
theorem r71 : resOK prog.P (Go.Proofs.Tryz.f71).results.toList = true := by kernel_rfl

/-- impl.within -/
def lv72 : List (Nat × List Nat) := [(0, [0, 1, 2]), (1, [6])]
def m72 : MC :=
  (.seq
 (.reg false [0, 1, 2] [⟨(some 6), none, false, .mov (.k (.d (.bool false)))⟩])
 (.seq
 (.reg false [6] [⟨(some 7), none, false, .mov (.t 1)⟩,
 ⟨(some 8), none, false, .mov (.t 0)⟩,
 ⟨(some 9), none, false, .bin .leq (.t 7) (.t 8)⟩,
 ⟨(some 10), none, false, .mov (.t 9)⟩,
 ⟨(some 11), (some (10, true)), false, .mov (.t 0)⟩,
 ⟨(some 12), (some (10, true)), false, .mov (.t 2)⟩,
 ⟨(some 13), (some (10, true)), false, .bin .leq (.t 11) (.t 12)⟩,
 ⟨(some 14), none, false, .pick (.t 10) (.t 13) (.k (.d (.bool false)))⟩,
 ⟨(some 6), none, false, .mov (.t 14)⟩])
 .ret))
theorem c72 : (Go.Proofs.Tryz.f72).body.bind (comp prog.P (3, (Go.Proofs.Tryz.f72).ntmps) lv72) = some m72 := by kernel_rfl
theorem r72 : resOK prog.P (Go.Proofs.Tryz.f72).results.toList = true := by kernel_rfl

/-- laws.eqCaseS -/
def lv75 : List (Nat × List Nat) := [(0, [0, 1]), (1, [0, 1, 10]), (2, [4]), (3, [0, 1, 5]), (4, [0, 1, 5, 14]), (5, [0, 1, 5]), (6, [0, 1, 5, 26]), (7, [4]), (8, [4])]
def m75 : MC :=
  (.seq
 (.reg false [0, 1] [⟨(some 4), none, false, .mov (.k (.d (.bool false)))⟩])
 (.seq
 (.seq
 (.reg false [0, 1, 10] [⟨(some 6), none, false, .mov (.t 0)⟩,
 ⟨(some 7), none, false, .len false (.t 6)⟩,
 ⟨(some 8), none, false, .mov (.t 1)⟩,
 ⟨(some 9), none, false, .len false (.t 8)⟩,
 ⟨(some 10), none, false, .bin .neq (.t 7) (.t 9)⟩])
 (.cond (.t 10)
 (.seq
 (.reg false [4] [⟨(some 4), none, false, .mov (.k (.d (.bool false)))⟩])
 .ret)
 .skip))
 (.seq
 (.seq
 (.reg false [0, 1, 5] [⟨(some 5), none, false, .mov (.k (.d (.int .i64 0)))⟩])
 (.block 0
 (.loop
 (.seq
 (.seq
 (.reg false [0, 1, 5, 14] [⟨(some 11), none, false, .mov (.t 5)⟩,
 ⟨(some 12), none, false, .mov (.t 0)⟩,
 ⟨(some 13), none, false, .len false (.t 12)⟩,
 ⟨(some 14), none, false, .bin .lss (.t 11) (.t 13)⟩])
 (.cond (.t 14)
 .skip
 (.exit 0)))
 (.seq
 (.block 1
 (.seq
 (.reg true [0, 1, 5, 26] [⟨(some 17), none, false, .mov (.t 0)⟩,
 ⟨(some 18), none, false, .mov (.t 5)⟩,
 ⟨(some 19), none, false, .ia 4 (.t 17) (.t 18)⟩,
 ⟨(some 20), none, false, .ld (some 4) (.t 19)⟩,
 ⟨(some 21), none, false, .mov (.t 1)⟩,
 ⟨(some 22), none, false, .mov (.t 5)⟩,
 ⟨(some 23), none, false, .ia 4 (.t 21) (.t 22)⟩,
 ⟨(some 24), none, false, .ld (some 4) (.t 23)⟩,
 ⟨(some 25), none, false, .callP 125 [(.t 20), (.t 24)]⟩,
 ⟨(some 26), none, false, .un .not (.t 25)⟩])
 (.cond (.t 26)
 (.seq
 (.reg false [4] [⟨(some 4), none, false, .mov (.k (.d (.bool false)))⟩])
 .ret)
 .skip)))
 (.reg false [0, 1, 5] [⟨(some 15), none, false, .mov (.t 5)⟩,
 ⟨(some 16), none, false, .bin .add (.t 15) (.k (.d (.int .i64 1)))⟩,
 ⟨(some 5), none, false, .mov (.t 16)⟩]))))))
 (.seq
 (.reg false [4] [⟨(some 4), none, false, .mov (.k (.d (.bool true)))⟩])
 .ret))))
theorem c75 : (Go.Proofs.Tryz.f75).body.bind (comp prog.P (2, (Go.Proofs.Tryz.f75).ntmps) lv75) = some m75 := by kernel_rfl
theorem r75 : resOK prog.P (Go.Proofs.Tryz.f75).results.toList = true := by kernel_rfl

/-- laws.eqStringS -/
def lv76 : List (Nat × List Nat) := [(0, [0, 1]), (1, [0, 1, 10]), (2, [4]), (3, [0, 1, 5]), (4, [0, 1, 5, 14]), (5, [0, 1, 5]), (6, [0, 1, 5, 25]), (7, [4]), (8, [4])]
def m76 : MC :=
  (.seq
 (.reg false [0, 1] [⟨(some 4), none, false, .mov (.k (.d (.bool false)))⟩])
 (.seq
 (.seq
 (.reg false [0, 1, 10] [⟨(some 6), none, false, .mov (.t 0)⟩,
 ⟨(some 7), none, false, .len false (.t 6)⟩,
 ⟨(some 8), none, false, .mov (.t 1)⟩,
 ⟨(some 9), none, false, .len false (.t 8)⟩,
 ⟨(some 10), none, false, .bin .neq (.t 7) (.t 9)⟩])
 (.cond (.t 10)
 (.seq
 (.reg false [4] [⟨(some 4), none, false, .mov (.k (.d (.bool false)))⟩])
 .ret)
 .skip))
 (.seq
 (.seq
 (.reg false [0, 1, 5] [⟨(some 5), none, false, .mov (.k (.d (.int .i64 0)))⟩])
 (.block 0
 (.loop
 (.seq
 (.seq
 (.reg false [0, 1, 5, 14] [⟨(some 11), none, false, .mov (.t 5)⟩,
 ⟨(some 12), none, false, .mov (.t 0)⟩,
 ⟨(some 13), none, false, .len false (.t 12)⟩,
 ⟨(some 14), none, false, .bin .lss (.t 11) (.t 13)⟩])
 (.cond (.t 14)
 .skip
 (.exit 0)))
 (.seq
 (.block 1
 (.seq
 (.reg true [0, 1, 5, 25] [⟨(some 17), none, false, .mov (.t 0)⟩,
 ⟨(some 18), none, false, .mov (.t 5)⟩,
 ⟨(some 19), none, false, .ia 1 (.t 17) (.t 18)⟩,
 ⟨(some 20), none, false, .ld none (.t 19)⟩,
 ⟨(some 21), none, false, .mov (.t 1)⟩,
 ⟨(some 22), none, false, .mov (.t 5)⟩,
 ⟨(some 23), none, false, .ia 1 (.t 21) (.t 22)⟩,
 ⟨(some 24), none, false, .ld none (.t 23)⟩,
 ⟨(some 25), none, false, .bin .neq (.t 20) (.t 24)⟩])
 (.cond (.t 25)
 (.seq
 (.reg false [4] [⟨(some 4), none, false, .mov (.k (.d (.bool false)))⟩])
 .ret)
 .skip)))
 (.reg false [0, 1, 5] [⟨(some 15), none, false, .mov (.t 5)⟩,
 ⟨(some 16), none, false, .bin .add (.t 15) (.k (.d (.int .i64 1)))⟩,
 ⟨(some 5), none, false, .mov (.t 16)⟩]))))))
 (.seq
 (.reg false [4] [⟨(some 4), none, false, .mov (.k (.d (.bool true)))⟩])
 .ret))))
theorem c76 : (Go.Proofs.Tryz.f76).body.bind (comp prog.P (2, (Go.Proofs.Tryz.f76).ntmps) lv76) = some m76 := by kernel_rfl
theorem r76 : resOK prog.P (Go.Proofs.Tryz.f76).results.toList = true := by kernel_rfl

/-- impl.isDay -/
def lv86 : List (Nat × List Nat) := [(0, [0]), (1, [2])]
def m86 : MC :=
  (.seq
 (.reg false [0] [⟨(some 2), none, false, .mov (.k (.d (.bool false)))⟩])
 (.seq
 (.reg false [2] [⟨(some 3), none, false, .mov (.t 0)⟩,
 ⟨(some 4), none, true, .call 72 [(.t 3), (.k (.d (.int .i64 0))), (.k (.d (.int .i64 20000)))]⟩,
 ⟨(some 2), none, false, .mov (.t 4)⟩])
 .ret))
theorem c86 : (Go.Proofs.Tryz.f86).body.bind (comp prog.P (1, (Go.Proofs.Tryz.f86).ntmps) lv86) = some m86 := by kernel_rfl
theorem r86 : resOK prog.P (Go.Proofs.Tryz.f86).results.toList = true := by kernel_rfl

/-- impl.IsLedger -/
def lv87 : List (Nat × List Nat) := [(0, [0]), (1, [2])]
def m87 : MC :=
  (.seq
 (.reg false [0] [⟨(some 2), none, false, .mov (.k (.d (.bool false)))⟩])
 (.seq
 (.reg false [2] [⟨(some 3), none, false, .mov (.t 0)⟩,
 ⟨(some 4), none, false, .len false (.t 3)⟩,
 ⟨(some 5), none, true, .call 72 [(.t 4), (.k (.d (.int .i64 1))), (.k (.d (.int .i64 8)))]⟩,
 ⟨(some 6), none, false, .mov (.t 5)⟩,
 ⟨(some 7), (some (6, true)), false, .mov (.t 0)⟩,
 ⟨(some 8), (some (6, true)), true, .call 130 [(.t 7), (.k (.d (.clo 131 .nil)))]⟩,
 ⟨(some 9), (some (6, true)), false, .un .not (.t 8)⟩,
 ⟨(some 10), none, false, .pick (.t 6) (.t 9) (.k (.d (.bool false)))⟩,
 ⟨(some 2), none, false, .mov (.t 10)⟩])
 .ret))
theorem c87 : (Go.Proofs.Tryz.f87).body.bind (comp prog.P (1, (Go.Proofs.Tryz.f87).ntmps) lv87) = some m87 := by kernel_rfl
theorem r87 : resOK prog.P (Go.Proofs.Tryz.f87).results.toList = true := by kernel_rfl

/-- impl.isCase -/
def lv88 : List (Nat × List Nat) := [(0, [1]), (1, [2])]
def m88 : MC :=
  (.seq
 (.reg false [1] [⟨(some 1), none, true, .box (.t 0)⟩,
 ⟨(some 2), none, false, .mov (.k (.d (.bool false)))⟩])
 (.seq
 (.reg false [2] [⟨(some 3), none, false, .fa 0 0 (.t 1)⟩,
 ⟨(some 4), none, false, .ld none (.t 3)⟩,
 ⟨(some 5), none, true, .call 133 [(.t 4)]⟩,
 ⟨(some 6), none, false, .mov (.t 5)⟩,
 ⟨(some 7), (some (6, true)), false, .fa 1 1 (.t 1)⟩,
 ⟨(some 8), (some (6, true)), false, .ld none (.t 7)⟩,
 ⟨(some 9), (some (6, true)), true, .call 134 [(.t 8)]⟩,
 ⟨(some 10), none, false, .pick (.t 6) (.t 9) (.k (.d (.bool false)))⟩,
 ⟨(some 11), none, false, .mov (.t 10)⟩,
 ⟨(some 12), (some (11, true)), false, .fa 2 2 (.t 1)⟩,
 ⟨(some 13), (some (11, true)), false, .ld none (.t 12)⟩,
 ⟨(some 14), (some (11, true)), true, .call 86 [(.t 13)]⟩,
 ⟨(some 15), none, false, .pick (.t 11) (.t 14) (.k (.d (.bool false)))⟩,
 ⟨(some 16), none, false, .mov (.t 15)⟩,
 ⟨(some 17), (some (16, true)), false, .fa 3 3 (.t 1)⟩,
 ⟨(some 18), (some (16, true)), false, .ld none (.t 17)⟩,
 ⟨(some 19), (some (16, true)), false, .len false (.t 18)⟩,
 ⟨(some 20), (some (16, true)), false, .bin .leq (.t 19) (.k (.d (.int .i64 5)))⟩,
 ⟨(some 21), none, false, .pick (.t 16) (.t 20) (.k (.d (.bool false)))⟩,
 ⟨(some 22), none, false, .mov (.t 21)⟩,
 ⟨(some 23), (some (22, true)), false, .fa 3 3 (.t 1)⟩,
 ⟨(some 24), (some (22, true)), false, .ld none (.t 23)⟩,
 ⟨(some 25), (some (22, true)), true, .call 135 [(.t 24)]⟩,
 ⟨(some 26), none, false, .pick (.t 22) (.t 25) (.k (.d (.bool false)))⟩,
 ⟨(some 27), none, false, .mov (.t 26)⟩,
 ⟨(some 28), (some (27, true)), false, .fa 3 3 (.t 1)⟩,
 ⟨(some 29), (some (27, true)), false, .ld none (.t 28)⟩,
 ⟨(some 30), (some (27, true)), true, .call 136 [(.t 29), (.k (.d (.clo 137 .nil)))]⟩,
 ⟨(some 31), (some (27, true)), false, .un .not (.t 30)⟩,
 ⟨(some 32), none, false, .pick (.t 27) (.t 31) (.k (.d (.bool false)))⟩,
 ⟨(some 2), none, false, .mov (.t 32)⟩])
 .ret))
theorem c88 : (Go.Proofs.Tryz.f88).body.bind (comp prog.P (1, (Go.Proofs.Tryz.f88).ntmps) lv88) = some m88 := by kernel_rfl
theorem r88 : resOK prog.P (Go.Proofs.Tryz.f88).results.toList = true := by kernel_rfl

/-- spec.l2Day -/
def lv95 : List (Nat × List Nat) := [(0, [0]), (1, [2])]
def m95 : MC :=
  (.seq
 (.reg false [0] [⟨(some 2), none, false, .mov (.k (.d (.bool false)))⟩])
 (.seq
 (.reg false [2] [⟨(some 3), none, false, .mov (.t 0)⟩,
 ⟨(some 4), none, true, .call 101 [(.t 3), (.k (.d (.int .i64 0))), (.k (.d (.int .i64 20000)))]⟩,
 ⟨(some 2), none, false, .mov (.t 4)⟩])
 .ret))
theorem c95 : (Go.Proofs.Tryz.f95).body.bind (comp prog.P (1, (Go.Proofs.Tryz.f95).ntmps) lv95) = some m95 := by kernel_rfl
theorem r95 : resOK prog.P (Go.Proofs.Tryz.f95).results.toList = true := by kernel_rfl

/-- impl.isHoldNumber -/
def lv98 : List (Nat × List Nat) := [(0, [0]), (1, [2])]
def m98 : MC :=
  (.seq
 (.reg false [0] [⟨(some 2), none, false, .mov (.k (.d (.bool false)))⟩])
 (.seq
 (.reg false [2] [⟨(some 3), none, false, .mov (.t 0)⟩,
 ⟨(some 4), none, true, .call 72 [(.t 3), (.k (.d (.int .i64 1))), (.k (.d (.int .i64 9)))]⟩,
 ⟨(some 2), none, false, .mov (.t 4)⟩])
 .ret))
theorem c98 : (Go.Proofs.Tryz.f98).body.bind (comp prog.P (1, (Go.Proofs.Tryz.f98).ntmps) lv98) = some m98 := by kernel_rfl
theorem r98 : resOK prog.P (Go.Proofs.Tryz.f98).results.toList = true := by kernel_rfl

/-- spec.l1In -/
def lv101 : List (Nat × List Nat) := [(0, [0, 1, 2]), (1, [6])]
def m101 : MC :=
  (.seq
 (.reg false [0, 1, 2] [⟨(some 6), none, false, .mov (.k (.d (.bool false)))⟩])
 (.seq
 (.reg false [6] [⟨(some 7), none, false, .mov (.t 0)⟩,
 ⟨(some 8), none, false, .mov (.t 1)⟩,
 ⟨(some 9), none, false, .bin .geq (.t 7) (.t 8)⟩,
 ⟨(some 10), none, false, .mov (.t 9)⟩,
 ⟨(some 11), (some (10, true)), false, .mov (.t 0)⟩,
 ⟨(some 12), (some (10, true)), false, .mov (.t 2)⟩,
 ⟨(some 13), (some (10, true)), false, .bin .leq (.t 11) (.t 12)⟩,
 ⟨(some 14), none, false, .pick (.t 10) (.t 13) (.k (.d (.bool false)))⟩,
 ⟨(some 6), none, false, .mov (.t 14)⟩])
 .ret))
theorem c101 : (Go.Proofs.Tryz.f101).body.bind (comp prog.P (3, (Go.Proofs.Tryz.f101).ntmps) lv101) = some m101 := by kernel_rfl
theorem r101 : resOK prog.P (Go.Proofs.Tryz.f101).results.toList = true := by kernel_rfl

/-- spec.l27Log -/
def lv107 : List (Nat × List Nat) := [(0, [1]), (1, [1, 14]), (2, [2]), (3, [1, 3, 4]), (4, [1, 3, 4, 6]), (5, [2])]
def m107 : MC :=
  (.seq
 (.reg false [1] [⟨(some 1), none, true, .box (.t 0)⟩,
 ⟨(some 2), none, false, .mov (.k (.d (.bool false)))⟩])
 (.seq
 (.seq
 (.reg false [1, 14] [⟨(some 7), none, false, .fa 0 0 (.t 1)⟩,
 ⟨(some 8), none, false, .ld none (.t 7)⟩,
 ⟨(some 9), none, false, .len true (.t 8)⟩,
 ⟨(some 10), none, false, .fa 1 1 (.t 1)⟩,
 ⟨(some 11), none, false, .ld none (.t 10)⟩,
 ⟨(some 12), none, false, .len true (.t 11)⟩,
 ⟨(some 13), none, false, .bin .add (.t 9) (.t 12)⟩,
 ⟨(some 14), none, false, .bin .gtr (.t 13) (.k (.d (.int .i64 30000)))⟩])
 (.cond (.t 14)
 (.seq
 (.reg false [2] [⟨(some 2), none, false, .mov (.k (.d (.bool false)))⟩])
 .ret)
 .skip))
 (.seq
 (.reg false [1, 3, 4] [⟨(some 16), none, false, .fa 0 0 (.t 1)⟩,
 ⟨(some 17), none, false, .ld none (.t 16)⟩,
 ⟨(some 18), none, false, .fa 1 1 (.t 1)⟩,
 ⟨(some 19), none, false, .ld none (.t 18)⟩,
 ⟨(some 20), none, false, .bin .add (.t 17) (.t 19)⟩,
 ⟨(some 21), none, true, .call 146 [(.t 20)]⟩,
 ⟨(some 15), none, false, .mov (.t 21)⟩,
 ⟨(some 22), none, false, .ext (.t 15) 0⟩,
 ⟨(some 23), none, false, .ext (.t 15) 1⟩,
 ⟨(some 3), none, false, .mov (.t 22)⟩,
 ⟨(some 4), none, false, .mov (.t 23)⟩])
 (.seq
 (.reg false [1, 3, 4, 6] [⟨(some 25), none, false, .fa 0 0 (.t 1)⟩,
 ⟨(some 26), none, false, .ld none (.t 25)⟩,
 ⟨(some 27), none, true, .call 146 [(.t 26)]⟩,
 ⟨(some 24), none, false, .mov (.t 27)⟩,
 ⟨(some 28), none, false, .ext (.t 24) 0⟩,
 ⟨(some 29), none, false, .ext (.t 24) 1⟩,
 ⟨(some 5), none, false, .mov (.t 28)⟩,
 ⟨(some 6), none, false, .mov (.t 29)⟩])
 (.seq
 (.reg false [2] [⟨(some 30), none, false, .mov (.t 4)⟩,
 ⟨(some 31), none, false, .fa 0 0 (.t 1)⟩,
 ⟨(some 32), none, false, .ld none (.t 31)⟩,
 ⟨(some 33), none, false, .len true (.t 32)⟩,
 ⟨(some 34), none, false, .fa 1 1 (.t 1)⟩,
 ⟨(some 35), none, false, .ld none (.t 34)⟩,
 ⟨(some 36), none, false, .len true (.t 35)⟩,
 ⟨(some 37), none, false, .bin .add (.t 33) (.t 36)⟩,
 ⟨(some 38), none, false, .bin .eql (.t 30) (.t 37)⟩,
 ⟨(some 39), none, false, .mov (.t 38)⟩,
 ⟨(some 40), (some (39, true)), false, .mov (.t 6)⟩,
 ⟨(some 41), (some (39, true)), false, .fa 0 0 (.t 1)⟩,
 ⟨(some 42), (some (39, true)), false, .ld none (.t 41)⟩,
 ⟨(some 43), (some (39, true)), false, .len true (.t 42)⟩,
 ⟨(some 44), (some (39, true)), false, .bin .eql (.t 40) (.t 43)⟩,
 ⟨(some 45), none, false, .pick (.t 39) (.t 44) (.k (.d (.bool false)))⟩,
 ⟨(some 46), none, false, .mov (.t 45)⟩,
 ⟨(some 47), (some (46, true)), false, .mov (.t 3)⟩,
 ⟨(some 48), (some (46, true)), false, .len false (.t 47)⟩,
 ⟨(some 49), (some (46, true)), false, .fa 2 2 (.t 1)⟩,
 ⟨(some 50), (some (46, true)), false, .ld none (.t 49)⟩,
 ⟨(some 51), (some (46, true)), false, .bin .eql (.t 48) (.t 50)⟩,
 ⟨(some 52), none, false, .pick (.t 46) (.t 51) (.k (.d (.bool false)))⟩,
 ⟨(some 2), none, false, .mov (.t 52)⟩])
 .ret)))))
theorem c107 : (Go.Proofs.Tryz.f107).body.bind (comp prog.P (1, (Go.Proofs.Tryz.f107).ntmps) lv107) = some m107 := by kernel_rfl
theorem r107 : resOK prog.P (Go.Proofs.Tryz.f107).results.toList = true := by kernel_rfl

/-- impl.recordsOf -/
def lv108 : List (Nat × List Nat) := [(0, [1]), (1, [1, 4]), (2, [1, 4, 5, 6]), (3, [1, 4, 5, 6, 8]), (4, [2, 3])]
def m108 : MC :=
  (.seq
 (.reg false [1] [⟨(some 1), none, true, .box (.t 0)⟩,
 ⟨(some 2), none, false, .mov (.k .nil)⟩,
 ⟨(some 3), none, false, .mov (.k (.d (.bool false)))⟩])
 (.seq
 (.reg false [1, 4] [⟨(some 9), none, false, .fa 0 0 (.t 1)⟩,
 ⟨(some 10), none, false, .ld none (.t 9)⟩,
 ⟨(some 11), none, false, .fa 1 1 (.t 1)⟩,
 ⟨(some 12), none, false, .ld none (.t 11)⟩,
 ⟨(some 13), none, false, .bin .add (.t 10) (.t 12)⟩,
 ⟨(some 4), none, false, .mov (.t 13)⟩])
 (.seq
 (.reg false [1, 4, 5, 6] [⟨(some 15), none, false, .mov (.t 4)⟩,
 ⟨(some 16), none, true, .call 147 [(.t 15)]⟩,
 ⟨(some 14), none, false, .mov (.t 16)⟩,
 ⟨(some 17), none, false, .ext (.t 14) 0⟩,
 ⟨(some 18), none, false, .ext (.t 14) 1⟩,
 ⟨(some 5), none, false, .mov (.t 17)⟩,
 ⟨(some 6), none, false, .mov (.t 18)⟩])
 (.seq
 (.reg false [1, 4, 5, 6, 8] [⟨(some 20), none, false, .fa 0 0 (.t 1)⟩,
 ⟨(some 21), none, false, .ld none (.t 20)⟩,
 ⟨(some 22), none, true, .call 147 [(.t 21)]⟩,
 ⟨(some 19), none, false, .mov (.t 22)⟩,
 ⟨(some 23), none, false, .ext (.t 19) 0⟩,
 ⟨(some 24), none, false, .ext (.t 19) 1⟩,
 ⟨(some 7), none, false, .mov (.t 23)⟩,
 ⟨(some 8), none, false, .mov (.t 24)⟩])
 (.seq
 (.reg true [2, 3] [⟨(some 25), none, false, .mov (.t 5)⟩,
 ⟨(some 26), none, false, .mov (.t 6)⟩,
 ⟨(some 27), none, false, .mov (.t 4)⟩,
 ⟨(some 28), none, false, .len true (.t 27)⟩,
 ⟨(some 29), none, false, .bin .eql (.t 26) (.t 28)⟩,
 ⟨(some 30), none, false, .mov (.t 29)⟩,
 ⟨(some 31), (some (30, true)), false, .mov (.t 8)⟩,
 ⟨(some 32), (some (30, true)), false, .fa 0 0 (.t 1)⟩,
 ⟨(some 33), (some (30, true)), false, .ld none (.t 32)⟩,
 ⟨(some 34), (some (30, true)), false, .len true (.t 33)⟩,
 ⟨(some 35), (some (30, true)), false, .bin .eql (.t 31) (.t 34)⟩,
 ⟨(some 36), none, false, .pick (.t 30) (.t 35) (.k (.d (.bool false)))⟩,
 ⟨(some 37), none, false, .mov (.t 36)⟩,
 ⟨(some 38), (some (37, true)), false, .fa 2 2 (.t 1)⟩,
 ⟨(some 39), (some (37, true)), false, .ld none (.t 38)⟩,
 ⟨(some 40), (some (37, true)), false, .mov (.t 5)⟩,
 ⟨(some 41), (some (37, true)), false, .len false (.t 40)⟩,
 ⟨(some 42), (some (37, true)), false, .bin .eql (.t 39) (.t 41)⟩,
 ⟨(some 43), none, false, .pick (.t 37) (.t 42) (.k (.d (.bool false)))⟩,
 ⟨(some 2), none, false, .mov (.t 25)⟩,
 ⟨(some 3), none, false, .mov (.t 43)⟩])
 .ret)))))
theorem c108 : (Go.Proofs.Tryz.f108).body.bind (comp prog.P (1, (Go.Proofs.Tryz.f108).ntmps) lv108) = some m108 := by kernel_rfl
theorem r108 : resOK prog.P (Go.Proofs.Tryz.f108).results.toList = true := by kernel_rfl

/-- impl.decimals -/
def lv110 : List (Nat × List Nat) := [(0, [0, 1]), (1, [0, 1, 5]), (2, [1, 5, 11, 12, 13]), (3, [1, 5, 11, 12, 13, 14]), (4, [1, 5, 6, 7, 11, 12, 13]), (5, [1, 5, 11, 12, 13]), (6, [1, 5, 11, 12, 13]), (7, [4])]
def m110 : MC :=
  (.seq
 (.reg false [0, 1] [⟨(some 4), none, false, .mov (.k (.d (.str [])))⟩])
 (.seq
 (.reg false [0, 1, 5] [⟨(some 8), none, false, .mov (.t 0)⟩,
 ⟨(some 9), none, false, .len false (.t 8)⟩,
 ⟨(some 10), none, true, .mk 1 16 (.str []) (.t 9)⟩,
 ⟨(some 5), none, false, .mov (.t 10)⟩])
 (.seq
 (.seq
 (.reg false [1, 5, 11, 12, 13] [⟨(some 11), none, false, .mov (.t 0)⟩,
 ⟨(some 12), none, false, .len false (.t 11)⟩,
 ⟨(some 13), none, false, .mov (.k (.d (.int .i64 0)))⟩])
 (.block 0
 (.loop
 (.seq
 (.reg false [1, 5, 11, 12, 13, 14] [⟨(some 14), none, false, .bin .lss (.t 13) (.t 12)⟩])
 (.seq
 (.cond (.t 14)
 .skip
 (.exit 0))
 (.seq
 (.block 1
 (.seq
 (.reg false [1, 5, 6, 7, 11, 12, 13] [⟨(some 15), none, false, .mov (.t 13)⟩,
 ⟨(some 16), none, false, .ia 1 (.t 11) (.t 13)⟩,
 ⟨(some 17), none, false, .ld none (.t 16)⟩,
 ⟨(some 6), none, false, .mov (.t 15)⟩,
 ⟨(some 7), none, false, .mov (.t 17)⟩])
 (.reg false [1, 5, 11, 12, 13] [⟨(some 18), none, false, .mov (.t 5)⟩,
 ⟨(some 19), none, false, .mov (.t 6)⟩,
 ⟨(some 20), none, false, .mov (.t 7)⟩,
 ⟨(some 21), none, true, .call 63 [(.t 20)]⟩,
 ⟨(some 22), none, false, .ia 1 (.t 18) (.t 19)⟩,
 ⟨none, none, true, .st 1 (.t 22) (.t 21)⟩])))
 (.reg false [1, 5, 11, 12, 13] [⟨(some 23), none, false, .bin .add (.t 13) (.k (.d (.int .i64 1)))⟩,
 ⟨(some 13), none, false, .mov (.t 23)⟩])))))))
 (.seq
 (.reg false [4] [⟨(some 24), none, false, .mov (.t 5)⟩,
 ⟨(some 25), none, false, .mov (.t 1)⟩,
 ⟨(some 26), none, true, .call 149 [(.t 24), (.t 25)]⟩,
 ⟨(some 4), none, false, .mov (.t 26)⟩])
 .ret))))
theorem c110 : (Go.Proofs.Tryz.f110).body.bind (comp prog.P (2, (Go.Proofs.Tryz.f110).ntmps) lv110) = some m110 := by kernel_rfl
theorem r110 : resOK prog.P (Go.Proofs.Tryz.f110).results.toList = true := by kernel_rfl

/-- laws.szCase -/
def lv111 : List (Nat × List Nat) := [(0, [1, 2]), (1, [1]), (2, [1, 10]), (3, [4]), (4, [4])]
def m111 : MC :=
  (.seq
 (.reg false [1, 2] [⟨(some 2), none, true, .box (.t 0)⟩,
 ⟨(some 4), none, false, .mov (.k (.d (.int .i64 0)))⟩])
 (.seq
 (.reg false [1] [⟨(some 5), none, false, .fa 3 3 (.t 2)⟩,
 ⟨(some 6), none, false, .ld none (.t 5)⟩,
 ⟨(some 7), none, false, .mov (.t 1)⟩,
 ⟨(some 8), none, true, .call 150 [(.t 6), (.t 7)]⟩,
 ⟨(some 1), none, false, .mov (.t 8)⟩])
 (.seq
 (.seq
 (.reg false [1, 10] [⟨(some 9), none, false, .mov (.t 1)⟩,
 ⟨(some 10), none, false, .bin .lss (.t 9) (.k (.d (.int .i64 0)))⟩])
 (.cond (.t 10)
 (.seq
 (.reg false [4] [⟨(some 4), none, false, .mov (.k (.d (.int .i64 (-1))))⟩])
 .ret)
 .skip))
 (.seq
 (.reg false [4] [⟨(some 11), none, false, .mov (.t 1)⟩,
 ⟨(some 4), none, false, .mov (.t 11)⟩])
 .ret))))
theorem c111 : (Go.Proofs.Tryz.f111).body.bind (comp prog.P (1, (Go.Proofs.Tryz.f111).ntmps) lv111) = some m111 := by kernel_rfl
theorem r111 : resOK prog.P (Go.Proofs.Tryz.f111).results.toList = true := by kernel_rfl

/-- spec.l16Good -/
def lv112 : List (Nat × List Nat) := [(0, [0]), (1, [0, 3]), (2, [0, 3, 7]), (3, [0, 3]), (4, [0, 3, 15]), (5, [2]), (6, [2])]
def m112 : MC :=
  (.seq
 (.reg false [0] [⟨(some 2), none, false, .mov (.k (.d (.bool false)))⟩])
 (.seq
 (.seq
 (.reg false [0, 3] [⟨(some 3), none, false, .mov (.k (.d (.int .i64 0)))⟩])
 (.block 0
 (.loop
 (.seq
 (.seq
 (.reg false [0, 3, 7] [⟨(some 4), none, false, .mov (.t 3)⟩,
 ⟨(some 5), none, false, .mov (.t 0)⟩,
 ⟨(some 6), none, false, .len false (.t 5)⟩,
 ⟨(some 7), none, false, .bin .lss (.t 4) (.t 6)⟩])
 (.cond (.t 7)
 .skip
 (.exit 0)))
 (.seq
 (.block 1
 (.seq
 (.reg false [0, 3, 15] [⟨(some 10), none, false, .mov (.t 0)⟩,
 ⟨(some 11), none, false, .mov (.t 3)⟩,
 ⟨(some 12), none, false, .ia 1 (.t 10) (.t 11)⟩,
 ⟨(some 13), none, false, .ld none (.t 12)⟩,
 ⟨(some 14), none, true, .call 151 [(.t 13)]⟩,
 ⟨(some 15), none, false, .un .not (.t 14)⟩])
 (.cond (.t 15)
 (.seq
 (.reg false [2] [⟨(some 2), none, false, .mov (.k (.d (.bool false)))⟩])
 .ret)
 .skip)))
 (.reg false [0, 3] [⟨(some 8), none, false, .mov (.t 3)⟩,
 ⟨(some 9), none, false, .bin .add (.t 8) (.k (.d (.int .i64 1)))⟩,
 ⟨(some 3), none, false, .mov (.t 9)⟩]))))))
 (.seq
 (.reg false [2] [⟨(some 16), none, false, .mov (.t 0)⟩,
 ⟨(some 17), none, false, .len false (.t 16)⟩,
 ⟨(some 18), none, true, .call 101 [(.t 17), (.k (.d (.int .i64 1))), (.k (.d (.int .i64 8)))]⟩,
 ⟨(some 2), none, false, .mov (.t 18)⟩])
 .ret)))
theorem c112 : (Go.Proofs.Tryz.f112).body.bind (comp prog.P (1, (Go.Proofs.Tryz.f112).ntmps) lv112) = some m112 := by kernel_rfl
theorem r112 : resOK prog.P (Go.Proofs.Tryz.f112).results.toList = true := by kernel_rfl

/-- spec.l25Case -/
def lv113 : List (Nat × List Nat) := [(0, [1]), (1, [2])]
def m113 : MC :=
  (.seq
 (.reg false [1] [⟨(some 1), none, true, .box (.t 0)⟩,
 ⟨(some 2), none, false, .mov (.k (.d (.bool false)))⟩])
 (.seq
 (.reg false [2] [⟨(some 3), none, false, .fa 0 0 (.t 1)⟩,
 ⟨(some 4), none, false, .ld none (.t 3)⟩,
 ⟨(some 5), none, true, .call 101 [(.t 4), (.k (.d (.int .i64 1))), (.k (.d (.int .i64 999)))]⟩,
 ⟨(some 6), none, false, .mov (.t 5)⟩,
 ⟨(some 7), (some (6, true)), false, .fa 1 1 (.t 1)⟩,
 ⟨(some 8), (some (6, true)), false, .ld none (.t 7)⟩,
 ⟨(some 9), (some (6, true)), true, .call 101 [(.t 8), (.k (.d (.int .i64 1))), (.k (.d (.int .i64 3)))]⟩,
 ⟨(some 10), none, false, .pick (.t 6) (.t 9) (.k (.d (.bool false)))⟩,
 ⟨(some 11), none, false, .mov (.t 10)⟩,
 ⟨(some 12), (some (11, true)), false, .fa 2 2 (.t 1)⟩,
 ⟨(some 13), (some (11, true)), false, .ld none (.t 12)⟩,
 ⟨(some 14), (some (11, true)), true, .call 95 [(.t 13)]⟩,
 ⟨(some 15), none, false, .pick (.t 11) (.t 14) (.k (.d (.bool false)))⟩,
 ⟨(some 16), none, false, .mov (.t 15)⟩,
 ⟨(some 17), (some (16, true)), false, .fa 3 3 (.t 1)⟩,
 ⟨(some 18), (some (16, true)), false, .ld none (.t 17)⟩,
 ⟨(some 19), (some (16, true)), false, .len false (.t 18)⟩,
 ⟨(some 20), (some (16, true)), false, .bin .leq (.t 19) (.k (.d (.int .i64 5)))⟩,
 ⟨(some 21), none, false, .pick (.t 16) (.t 20) (.k (.d (.bool false)))⟩,
 ⟨(some 22), none, false, .mov (.t 21)⟩,
 ⟨(some 23), (some (22, true)), false, .fa 3 3 (.t 1)⟩,
 ⟨(some 24), (some (22, true)), false, .ld none (.t 23)⟩,
 ⟨(some 25), (some (22, true)), true, .call 152 [(.t 24), (.k (.d (.int .i64 1))), (.k (.d (.int .i64 9)))]⟩,
 ⟨(some 26), none, false, .pick (.t 22) (.t 25) (.k (.d (.bool false)))⟩,
 ⟨(some 2), none, false, .mov (.t 26)⟩])
 .ret))
theorem c113 : (Go.Proofs.Tryz.f113).body.bind (comp prog.P (1, (Go.Proofs.Tryz.f113).ntmps) lv113) = some m113 := by kernel_rfl
theorem r113 : resOK prog.P (Go.Proofs.Tryz.f113).results.toList = true := by kernel_rfl

/-- laws.toCase -/
def lv118 : List (Nat × List Nat) := [(0, [1, 2]), (1, [1, 2, 3]), (2, [1, 2, 3]), (3, [1, 2, 3]), (4, [1, 2, 3]), (5, [2, 3]), (6, [2])]
def m118 : MC :=
  (.seq
 (.reg false [1, 2] [⟨(some 1), none, true, .box (.t 0)⟩,
 ⟨(some 2), none, true, .alloc (.st (.cons (.int .i64 0) (.cons (.int .i64 0) (.cons (.int .i64 0) (.cons (.sl true 1 .nil) .nil)))))⟩])
 (.seq
 (.reg false [1, 2, 3] [⟨(some 3), none, true, .alloc (.st (.cons (.int .i64 0) (.cons (.int .i64 0) (.cons (.int .i64 0) (.cons (.sl true 1 .nil) .nil)))))⟩])
 (.seq
 (.reg false [1, 2, 3] [⟨(some 4), none, false, .fa 0 0 (.t 1)⟩,
 ⟨(some 5), none, false, .ld none (.t 4)⟩,
 ⟨(some 6), none, false, .fa 0 0 (.t 3)⟩,
 ⟨none, none, true, .st 1 (.t 6) (.t 5)⟩])
 (.seq
 (.reg false [1, 2, 3] [⟨(some 7), none, false, .fa 1 1 (.t 1)⟩,
 ⟨(some 8), none, false, .ld none (.t 7)⟩,
 ⟨(some 9), none, false, .fa 1 1 (.t 3)⟩,
 ⟨none, none, true, .st 1 (.t 9) (.t 8)⟩])
 (.seq
 (.reg false [1, 2, 3] [⟨(some 10), none, false, .fa 2 2 (.t 1)⟩,
 ⟨(some 11), none, false, .ld none (.t 10)⟩,
 ⟨(some 12), none, false, .fa 2 2 (.t 3)⟩,
 ⟨none, none, true, .st 1 (.t 12) (.t 11)⟩])
 (.seq
 (.reg false [2, 3] [⟨(some 13), none, false, .fa 3 3 (.t 1)⟩,
 ⟨(some 14), none, false, .ld none (.t 13)⟩,
 ⟨(some 15), none, true, .call 153 [(.t 14)]⟩,
 ⟨(some 16), none, false, .fa 3 3 (.t 3)⟩,
 ⟨none, none, true, .st 1 (.t 16) (.t 15)⟩])
 (.seq
 (.reg false [2] [⟨(some 17), none, false, .ld (some 4) (.t 3)⟩,
 ⟨none, none, true, .st 4 (.t 2) (.t 17)⟩])
 .ret)))))))
theorem c118 : (Go.Proofs.Tryz.f118).body.bind (comp prog.P (1, (Go.Proofs.Tryz.f118).ntmps) lv118) = some m118 := by kernel_rfl
theorem r118 : resOK prog.P (Go.Proofs.Tryz.f118).results.toList = true := by kernel_rfl

/-- laws.eqCase -/
def lv125 : List (Nat × List Nat) := [(0, [2, 3]), (1, [2, 3, 9]), (2, [4]), (3, [2, 3, 14]), (4, [4]), (5, [2, 3, 19]), (6, [4]), (7, [25]), (8, [4]), (9, [4])]
def m125 : MC :=
  (.seq
 (.reg false [2, 3] [⟨(some 2), none, true, .box (.t 0)⟩,
 ⟨(some 3), none, true, .box (.t 1)⟩,
 ⟨(some 4), none, false, .mov (.k (.d (.bool false)))⟩])
 (.seq
 (.seq
 (.reg false [2, 3, 9] [⟨(some 5), none, false, .fa 0 0 (.t 2)⟩,
 ⟨(some 6), none, false, .ld none (.t 5)⟩,
 ⟨(some 7), none, false, .fa 0 0 (.t 3)⟩,
 ⟨(some 8), none, false, .ld none (.t 7)⟩,
 ⟨(some 9), none, false, .bin .neq (.t 6) (.t 8)⟩])
 (.cond (.t 9)
 (.seq
 (.reg false [4] [⟨(some 4), none, false, .mov (.k (.d (.bool false)))⟩])
 .ret)
 .skip))
 (.seq
 (.seq
 (.reg false [2, 3, 14] [⟨(some 10), none, false, .fa 1 1 (.t 2)⟩,
 ⟨(some 11), none, false, .ld none (.t 10)⟩,
 ⟨(some 12), none, false, .fa 1 1 (.t 3)⟩,
 ⟨(some 13), none, false, .ld none (.t 12)⟩,
 ⟨(some 14), none, false, .bin .neq (.t 11) (.t 13)⟩])
 (.cond (.t 14)
 (.seq
 (.reg false [4] [⟨(some 4), none, false, .mov (.k (.d (.bool false)))⟩])
 .ret)
 .skip))
 (.seq
 (.seq
 (.reg false [2, 3, 19] [⟨(some 15), none, false, .fa 2 2 (.t 2)⟩,
 ⟨(some 16), none, false, .ld none (.t 15)⟩,
 ⟨(some 17), none, false, .fa 2 2 (.t 3)⟩,
 ⟨(some 18), none, false, .ld none (.t 17)⟩,
 ⟨(some 19), none, false, .bin .neq (.t 16) (.t 18)⟩])
 (.cond (.t 19)
 (.seq
 (.reg false [4] [⟨(some 4), none, false, .mov (.k (.d (.bool false)))⟩])
 .ret)
 .skip))
 (.seq
 (.seq
 (.reg false [25] [⟨(some 20), none, false, .fa 3 3 (.t 2)⟩,
 ⟨(some 21), none, false, .ld none (.t 20)⟩,
 ⟨(some 22), none, false, .fa 3 3 (.t 3)⟩,
 ⟨(some 23), none, false, .ld none (.t 22)⟩,
 ⟨(some 24), none, true, .call 159 [(.t 21), (.t 23)]⟩,
 ⟨(some 25), none, false, .un .not (.t 24)⟩])
 (.cond (.t 25)
 (.seq
 (.reg false [4] [⟨(some 4), none, false, .mov (.k (.d (.bool false)))⟩])
 .ret)
 .skip))
 (.seq
 (.reg false [4] [⟨(some 4), none, false, .mov (.k (.d (.bool true)))⟩])
 .ret))))))
theorem c125 : (Go.Proofs.Tryz.f125).body.bind (comp prog.P (2, (Go.Proofs.Tryz.f125).ntmps) lv125) = some m125 := by kernel_rfl
theorem r125 : resOK prog.P (Go.Proofs.Tryz.f125).results.toList = true := by kernel_rfl

/-- slices.ContainsFunc[[]string,string] -/
def lv130 : List (Nat × List Nat) := [(0, [0, 1]), (1, [4])]
def m130 : MC :=
  (.seq
 (.reg false [0, 1] [⟨(some 4), none, false, .mov (.k (.d (.bool false)))⟩])
 (.seq
 (.reg false [4] [⟨(some 5), none, false, .mov (.t 0)⟩,
 ⟨(some 6), none, false, .mov (.t 1)⟩,
 ⟨(some 7), none, true, .call 160 [(.t 5), (.t 6)]⟩,
 ⟨(some 8), none, false, .bin .geq (.t 7) (.k (.d (.int .i64 0)))⟩,
 ⟨(some 4), none, false, .mov (.t 8)⟩])
 .ret))
theorem c130 : (Go.Proofs.Tryz.f130).body.bind (comp prog.P (2, (Go.Proofs.Tryz.f130).ntmps) lv130) = some m130 := by kernel_rfl
theorem r130 : resOK prog.P (Go.Proofs.Tryz.f130).results.toList = true := by kernel_rfl

/-- impl.IsLedger$1 -/
def lv131 : List (Nat × List Nat) := [(0, [0]), (1, [2])]
def m131 : MC :=
  (.seq
 (.reg false [0] [⟨(some 2), none, false, .mov (.k (.d (.bool false)))⟩])
 (.seq
 (.reg false [2] [⟨(some 3), none, false, .mov (.t 0)⟩,
 ⟨(some 4), none, true, .call 132 [(.t 3)]⟩,
 ⟨(some 5), none, false, .un .not (.t 4)⟩,
 ⟨(some 2), none, false, .mov (.t 5)⟩])
 .ret))
theorem c131 : (Go.Proofs.Tryz.f131).body.bind (comp prog.P (1, (Go.Proofs.Tryz.f131).ntmps) lv131) = some m131 := by kernel_rfl
theorem r131 : resOK prog.P (Go.Proofs.Tryz.f131).results.toList = true := by kernel_rfl
theorem en131 : enterOK prog.P 131 = true := by kernel_rfl

/-- impl.isEntry -/
def lv132 : List (Nat × List Nat) := [(0, [0]), (1, [2])]
def m132 : MC :=
  (.seq
 (.reg false [0] [⟨(some 2), none, false, .mov (.k (.d (.bool false)))⟩])
 (.seq
 (.reg false [2] [⟨(some 3), none, false, .mov (.t 0)⟩,
 ⟨(some 4), none, false, .len true (.t 3)⟩,
 ⟨(some 5), none, true, .call 72 [(.t 4), (.k (.d (.int .i64 1))), (.k (.d (.int .i64 40)))]⟩,
 ⟨(some 6), none, false, .mov (.t 5)⟩,
 ⟨(some 7), (some (6, true)), false, .mov (.t 0)⟩,
 ⟨(some 8), (some (6, true)), true, .call 161 [(.t 7), (.k (.d (.str [97, 98, 99, 100, 101, 102, 103, 104, 105, 106, 107, 108, 109, 110, 111, 112, 113, 114, 115, 116, 117, 118, 119, 120, 121, 122, 48, 49, 50, 51, 52, 53, 54, 55, 56, 57, 32, 45])))]⟩,
 ⟨(some 9), (some (6, true)), false, .bin .eql (.t 8) (.k (.d (.str [])))⟩,
 ⟨(some 10), none, false, .pick (.t 6) (.t 9) (.k (.d (.bool false)))⟩,
 ⟨(some 2), none, false, .mov (.t 10)⟩])
 .ret))
theorem c132 : (Go.Proofs.Tryz.f132).body.bind (comp prog.P (1, (Go.Proofs.Tryz.f132).ntmps) lv132) = some m132 := by kernel_rfl
theorem r132 : resOK prog.P (Go.Proofs.Tryz.f132).results.toList = true := by kernel_rfl

/-- impl.isRecordId -/
def lv133 : List (Nat × List Nat) := [(0, [0]), (1, [2])]
def m133 : MC :=
  (.seq
 (.reg false [0] [⟨(some 2), none, false, .mov (.k (.d (.bool false)))⟩])
 (.seq
 (.reg false [2] [⟨(some 3), none, false, .mov (.t 0)⟩,
 ⟨(some 4), none, true, .call 72 [(.t 3), (.k (.d (.int .i64 1))), (.k (.d (.int .i64 999)))]⟩,
 ⟨(some 2), none, false, .mov (.t 4)⟩])
 .ret))
theorem c133 : (Go.Proofs.Tryz.f133).body.bind (comp prog.P (1, (Go.Proofs.Tryz.f133).ntmps) lv133) = some m133 := by kernel_rfl
theorem r133 : resOK prog.P (Go.Proofs.Tryz.f133).results.toList = true := by kernel_rfl

/-- impl.isAct -/
def lv134 : List (Nat × List Nat) := [(0, [0]), (1, [2])]
def m134 : MC :=
  (.seq
 (.reg false [0] [⟨(some 2), none, false, .mov (.k (.d (.bool false)))⟩])
 (.seq
 (.reg false [2] [⟨(some 3), none, false, .mov (.t 0)⟩,
 ⟨(some 4), none, true, .call 72 [(.t 3), (.k (.d (.int .i64 1))), (.k (.d (.int .i64 3)))]⟩,
 ⟨(some 2), none, false, .mov (.t 4)⟩])
 .ret))
theorem c134 : (Go.Proofs.Tryz.f134).body.bind (comp prog.P (1, (Go.Proofs.Tryz.f134).ntmps) lv134) = some m134 := by kernel_rfl
theorem r134 : resOK prog.P (Go.Proofs.Tryz.f134).results.toList = true := by kernel_rfl

/-- impl.areRising -/
def lv135 : List (Nat × List Nat) := [(0, [0]), (1, [0, 3]), (2, [0, 3, 7]), (3, [0, 3]), (4, [0, 3, 19]), (5, [2]), (6, [2])]
def m135 : MC :=
  (.seq
 (.reg false [0] [⟨(some 2), none, false, .mov (.k (.d (.bool false)))⟩])
 (.seq
 (.seq
 (.reg false [0, 3] [⟨(some 3), none, false, .mov (.k (.d (.int .i64 1)))⟩])
 (.block 0
 (.loop
 (.seq
 (.seq
 (.reg false [0, 3, 7] [⟨(some 4), none, false, .mov (.t 3)⟩,
 ⟨(some 5), none, false, .mov (.t 0)⟩,
 ⟨(some 6), none, false, .len false (.t 5)⟩,
 ⟨(some 7), none, false, .bin .lss (.t 4) (.t 6)⟩])
 (.cond (.t 7)
 .skip
 (.exit 0)))
 (.seq
 (.block 1
 (.seq
 (.reg true [0, 3, 19] [⟨(some 10), none, false, .mov (.t 0)⟩,
 ⟨(some 11), none, false, .mov (.t 3)⟩,
 ⟨(some 12), none, false, .bin .sub (.t 11) (.k (.d (.int .i64 1)))⟩,
 ⟨(some 13), none, false, .ia 1 (.t 10) (.t 12)⟩,
 ⟨(some 14), none, false, .ld none (.t 13)⟩,
 ⟨(some 15), none, false, .mov (.t 0)⟩,
 ⟨(some 16), none, false, .mov (.t 3)⟩,
 ⟨(some 17), none, false, .ia 1 (.t 15) (.t 16)⟩,
 ⟨(some 18), none, false, .ld none (.t 17)⟩,
 ⟨(some 19), none, false, .bin .geq (.t 14) (.t 18)⟩])
 (.cond (.t 19)
 (.seq
 (.reg false [2] [⟨(some 2), none, false, .mov (.k (.d (.bool false)))⟩])
 .ret)
 .skip)))
 (.reg false [0, 3] [⟨(some 8), none, false, .mov (.t 3)⟩,
 ⟨(some 9), none, false, .bin .add (.t 8) (.k (.d (.int .i64 1)))⟩,
 ⟨(some 3), none, false, .mov (.t 9)⟩]))))))
 (.seq
 (.reg false [2] [⟨(some 2), none, false, .mov (.k (.d (.bool true)))⟩])
 .ret)))
theorem c135 : (Go.Proofs.Tryz.f135).body.bind (comp prog.P (1, (Go.Proofs.Tryz.f135).ntmps) lv135) = some m135 := by kernel_rfl
theorem r135 : resOK prog.P (Go.Proofs.Tryz.f135).results.toList = true := by kernel_rfl

/-- slices.ContainsFunc[[]int,int] -/
def lv136 : List (Nat × List Nat) := [(0, [0, 1]), (1, [4])]
def m136 : MC :=
  (.seq
 (.reg false [0, 1] [⟨(some 4), none, false, .mov (.k (.d (.bool false)))⟩])
 (.seq
 (.reg false [4] [⟨(some 5), none, false, .mov (.t 0)⟩,
 ⟨(some 6), none, false, .mov (.t 1)⟩,
 ⟨(some 7), none, true, .call 162 [(.t 5), (.t 6)]⟩,
 ⟨(some 8), none, false, .bin .geq (.t 7) (.k (.d (.int .i64 0)))⟩,
 ⟨(some 4), none, false, .mov (.t 8)⟩])
 .ret))
theorem c136 : (Go.Proofs.Tryz.f136).body.bind (comp prog.P (2, (Go.Proofs.Tryz.f136).ntmps) lv136) = some m136 := by kernel_rfl
theorem r136 : resOK prog.P (Go.Proofs.Tryz.f136).results.toList = true := by kernel_rfl

/-- impl.isCase$1 -/
def lv137 : List (Nat × List Nat) := [(0, [0]), (1, [2])]
def m137 : MC :=
  (.seq
 (.reg false [0] [⟨(some 2), none, false, .mov (.k (.d (.bool false)))⟩])
 (.seq
 (.reg false [2] [⟨(some 3), none, false, .mov (.t 0)⟩,
 ⟨(some 4), none, true, .call 98 [(.t 3)]⟩,
 ⟨(some 5), none, false, .un .not (.t 4)⟩,
 ⟨(some 2), none, false, .mov (.t 5)⟩])
 .ret))
theorem c137 : (Go.Proofs.Tryz.f137).body.bind (comp prog.P (1, (Go.Proofs.Tryz.f137).ntmps) lv137) = some m137 := by kernel_rfl
theorem r137 : resOK prog.P (Go.Proofs.Tryz.f137).results.toList = true := by kernel_rfl
theorem en137 : enterOK prog.P 137 = true := by kernel_rfl

/-- spec.l27Open -/
def lv146 : List (Nat × List Nat) := [(0, [0]), (1, [0, 4]), (2, [0, 4, 5]), (3, [0, 4, 5, 18]), (4, [0, 4, 5, 6]), (5, [0, 4, 5, 6, 7, 8]), (6, [0, 4, 5, 6, 7, 38]), (7, [0, 4, 5, 6]), (8, [0, 4, 5]), (9, [2, 3])]
def m146 : MC :=
  (.seq
 (.reg false [0] [⟨(some 2), none, false, .mov (.k .nil)⟩,
 ⟨(some 3), none, false, .mov (.k (.d (.int .i64 0)))⟩])
 (.seq
 (.reg false [0, 4] [⟨(some 9), none, true, .bs 2 0 (.st (.cons (.str []) (.cons (.str []) .nil))) []⟩,
 ⟨(some 4), none, false, .mov (.t 9)⟩])
 (.seq
 (.reg false [0, 4, 5] [⟨(some 5), none, false, .mov (.k (.d (.int .i64 0)))⟩])
 (.seq
 (.block 0
 (.loop
 (.seq
 (.seq
 (.reg false [0, 4, 5, 18] [⟨(some 10), none, false, .mov (.t 5)⟩,
 ⟨(some 11), none, false, .mov (.t 0)⟩,
 ⟨(some 12), none, false, .len true (.t 11)⟩,
 ⟨(some 13), none, false, .bin .lss (.t 10) (.t 12)⟩,
 ⟨(some 14), none, false, .mov (.t 13)⟩,
 ⟨(some 15), (some (14, true)), false, .mov (.t 4)⟩,
 ⟨(some 16), (some (14, true)), false, .len false (.t 15)⟩,
 ⟨(some 17), (some (14, true)), false, .bin .lss (.t 16) (.k (.d (.int .i64 60)))⟩,
 ⟨(some 18), none, false, .pick (.t 14) (.t 17) (.k (.d (.bool false)))⟩])
 (.cond (.t 18)
 .skip
 (.exit 0)))
 (.block 1
 (.seq
 (.reg false [0, 4, 5, 6] [⟨(some 19), none, false, .mov (.t 0)⟩,
 ⟨(some 20), none, false, .mov (.t 5)⟩,
 ⟨(some 21), none, false, .sls (.t 19) (some (.t 20)) none⟩,
 ⟨(some 22), none, true, .call 168 [(.t 21), (.k (.d (.int .u8 10)))]⟩,
 ⟨(some 6), none, false, .mov (.t 22)⟩])
 (.seq
 (.reg false [0, 4, 5, 6, 7, 8] [⟨(some 24), none, false, .mov (.t 6)⟩,
 ⟨(some 25), none, false, .ia 1 (.t 24) (.k (.d (.int .i64 0)))⟩,
 ⟨(some 26), none, false, .ld none (.t 25)⟩,
 ⟨(some 27), none, false, .mov (.t 4)⟩,
 ⟨(some 28), none, false, .len false (.t 27)⟩,
 ⟨(some 29), none, true, .call 169 [(.t 26), (.t 28)]⟩,
 ⟨(some 23), none, false, .mov (.t 29)⟩,
 ⟨(some 30), none, false, .ext (.t 23) 0⟩,
 ⟨(some 31), none, false, .ext (.t 23) 1⟩,
 ⟨(some 7), none, true, .alloc (.st (.cons (.str []) (.cons (.str []) .nil)))⟩,
 ⟨none, none, true, .st 2 (.t 7) (.t 30)⟩,
 ⟨(some 8), none, false, .mov (.t 31)⟩])
 (.seq
 (.seq
 (.reg false [0, 4, 5, 6, 7, 38] [⟨(some 32), none, false, .mov (.t 6)⟩,
 ⟨(some 33), none, false, .len false (.t 32)⟩,
 ⟨(some 34), none, false, .bin .lss (.t 33) (.k (.d (.int .i64 2)))⟩,
 ⟨(some 35), none, false, .mov (.t 34)⟩,
 ⟨(some 36), (some (35, false)), false, .mov (.t 8)⟩,
 ⟨(some 37), (some (35, false)), false, .un .not (.t 36)⟩,
 ⟨(some 38), none, false, .pick (.t 35) (.k (.d (.bool true))) (.t 37)⟩])
 (.cond (.t 38)
 (.exit 0)
 .skip))
 (.seq
 (.reg false [0, 4, 5, 6] [⟨(some 39), none, false, .mov (.t 4)⟩,
 ⟨(some 40), none, false, .ld (some 2) (.t 7)⟩,
 ⟨(some 41), none, true, .bs 2 1 (.st (.cons (.str []) (.cons (.str []) .nil))) [(0, (.t 40))]⟩,
 ⟨(some 42), none, true, .app 2 32 (.t 39) (.t 41)⟩,
 ⟨(some 4), none, false, .mov (.t 42)⟩])
 (.reg false [0, 4, 5] [⟨(some 43), none, false, .mov (.t 5)⟩,
 ⟨(some 44), none, false, .mov (.t 6)⟩,
 ⟨(some 45), none, false, .ia 1 (.t 44) (.k (.d (.int .i64 0)))⟩,
 ⟨(some 46), none, false, .ld none (.t 45)⟩,
 ⟨(some 47), none, false, .len true (.t 46)⟩,
 ⟨(some 48), none, false, .bin .add (.t 43) (.t 47)⟩,
 ⟨(some 49), none, false, .bin .add (.t 48) (.k (.d (.int .i64 1)))⟩,
 ⟨(some 5), none, false, .mov (.t 49)⟩])))))))))
 (.seq
 (.reg false [2, 3] [⟨(some 50), none, false, .mov (.t 4)⟩,
 ⟨(some 51), none, false, .mov (.t 5)⟩,
 ⟨(some 2), none, false, .mov (.t 50)⟩,
 ⟨(some 3), none, false, .mov (.t 51)⟩])
 .ret)))))
theorem c146 : (Go.Proofs.Tryz.f146).body.bind (comp prog.P (1, (Go.Proofs.Tryz.f146).ntmps) lv146) = some m146 := by kernel_rfl
theorem r146 : resOK prog.P (Go.Proofs.Tryz.f146).results.toList = true := by kernel_rfl

/-- impl.readRecords -/
def lv147 : List (Nat × List Nat) := [(0, [0]), (1, [0, 4]), (2, [0, 4, 5]), (3, [0, 4, 5, 22]), (4, [0, 4, 5, 6, 8]), (5, [0, 4, 5, 6, 32]), (6, [0, 4, 5, 6, 9]), (7, [0, 4, 5, 6, 12]), (8, [0, 4, 5, 6, 14, 15]), (9, [0, 4, 5, 6, 17]), (10, [0, 4, 5, 6, 17, 18, 19]), (11, [0, 4, 5, 6, 17, 67]), (12, [0, 4, 5, 6]), (13, [0, 4, 5]), (14, [2, 3])]
def m147 : MC :=
  (.seq
 (.reg false [0] [⟨(some 2), none, false, .mov (.k .nil)⟩,
 ⟨(some 3), none, false, .mov (.k (.d (.int .i64 0)))⟩])
 (.seq
 (.reg false [0, 4] [⟨(some 4), none, false, .mov (.k .nil)⟩])
 (.seq
 (.reg false [0, 4, 5] [⟨(some 5), none, false, .mov (.k (.d (.int .i64 0)))⟩])
 (.seq
 (.block 0
 (.loop
 (.seq
 (.seq
 (.reg false [0, 4, 5, 22] [⟨(some 20), none, false, .mov (.t 4)⟩,
 ⟨(some 21), none, false, .len false (.t 20)⟩,
 ⟨(some 22), none, false, .bin .lss (.t 21) (.k (.d (.int .i64 60)))⟩])
 (.cond (.t 22)
 .skip
 (.exit 0)))
 (.block 1
 (.seq
 (.reg false [0, 4, 5, 6, 8] [⟨(some 24), none, false, .mov (.t 0)⟩,
 ⟨(some 25), none, false, .mov (.t 5)⟩,
 ⟨(some 26), none, false, .sls (.t 24) (some (.t 25)) none⟩,
 ⟨(some 27), none, true, .call 170 [(.t 26), (.k (.d (.str [10])))]⟩,
 ⟨(some 23), none, false, .mov (.t 27)⟩,
 ⟨(some 28), none, false, .ext (.t 23) 0⟩,
 ⟨(some 29), none, false, .ext (.t 23) 1⟩,
 ⟨(some 30), none, false, .ext (.t 23) 2⟩,
 ⟨(some 6), none, false, .mov (.t 28)⟩,
 ⟨(some 7), none, false, .mov (.t 29)⟩,
 ⟨(some 8), none, false, .mov (.t 30)⟩])
 (.seq
 (.seq
 (.reg false [0, 4, 5, 6, 32] [⟨(some 31), none, false, .mov (.t 8)⟩,
 ⟨(some 32), none, false, .un .not (.t 31)⟩])
 (.cond (.t 32)
 (.exit 0)
 .skip))
 (.seq
 (.reg false [0, 4, 5, 6, 9] [⟨(some 34), none, false, .mov (.t 6)⟩,
 ⟨(some 35), none, true, .call 171 [(.t 34)]⟩,
 ⟨(some 33), none, false, .mov (.t 35)⟩,
 ⟨(some 36), none, false, .ext (.t 33) 0⟩,
 ⟨(some 37), none, false, .ext (.t 33) 1⟩,
 ⟨(some 9), none, false, .mov (.t 36)⟩,
 ⟨(some 10), none, false, .mov (.t 37)⟩])
 (.seq
 (.reg false [0, 4, 5, 6, 12] [⟨(some 39), none, false, .mov (.t 9)⟩,
 ⟨(some 40), none, true, .call 170 [(.t 39), (.k (.d (.str [32])))]⟩,
 ⟨(some 38), none, false, .mov (.t 40)⟩,
 ⟨(some 41), none, false, .ext (.t 38) 0⟩,
 ⟨(some 42), none, false, .ext (.t 38) 1⟩,
 ⟨(some 43), none, false, .ext (.t 38) 2⟩,
 ⟨(some 11), none, false, .mov (.t 41)⟩,
 ⟨(some 12), none, false, .mov (.t 42)⟩,
 ⟨(some 13), none, false, .mov (.t 43)⟩])
 (.seq
 (.reg false [0, 4, 5, 6, 14, 15] [⟨(some 45), none, false, .mov (.t 12)⟩,
 ⟨(some 46), none, true, .call 170 [(.t 45), (.k (.d (.str [64])))]⟩,
 ⟨(some 44), none, false, .mov (.t 46)⟩,
 ⟨(some 47), none, false, .ext (.t 44) 0⟩,
 ⟨(some 48), none, false, .ext (.t 44) 1⟩,
 ⟨(some 49), none, false, .ext (.t 44) 2⟩,
 ⟨(some 14), none, false, .mov (.t 47)⟩,
 ⟨(some 15), none, false, .mov (.t 48)⟩,
 ⟨(some 16), none, false, .mov (.t 49)⟩])
 (.seq
 (.reg false [0, 4, 5, 6, 17] [⟨(some 50), none, false, .mov (.t 14)⟩,
 ⟨(some 51), none, false, .mov (.t 15)⟩,
 ⟨(some 52), none, true, .bld (.cons (.str []) (.cons (.str []) .nil)) [(0, (.t 50)), (1, (.t 51))]⟩,
 ⟨(some 17), none, true, .alloc (.st (.cons (.str []) (.cons (.str []) .nil)))⟩,
 ⟨none, none, true, .st 2 (.t 17) (.t 52)⟩])
 (.seq
 (.seq
 (.reg false [0, 4, 5, 6, 17, 18, 19] [⟨(some 54), none, false, .mov (.t 4)⟩,
 ⟨(some 55), none, false, .len false (.t 54)⟩,
 ⟨(some 56), none, false, .ld (some 2) (.t 17)⟩,
 ⟨(some 57), none, true, .call 172 [(.t 55), (.t 56)]⟩,
 ⟨(some 53), none, false, .mov (.t 57)⟩,
 ⟨(some 58), none, false, .ext (.t 53) 0⟩,
 ⟨(some 59), none, false, .ext (.t 53) 1⟩,
 ⟨(some 18), none, false, .mov (.t 58)⟩,
 ⟨(some 19), none, false, .mov (.t 59)⟩])
 (.seq
 (.reg false [0, 4, 5, 6, 17, 67] [⟨(some 60), none, false, .mov (.t 19)⟩,
 ⟨(some 61), none, false, .un .not (.t 60)⟩,
 ⟨(some 62), none, false, .mov (.t 61)⟩,
 ⟨(some 63), (some (62, false)), false, .mov (.t 18)⟩,
 ⟨(some 64), (some (62, false)), false, .mov (.t 6)⟩,
 ⟨(some 65), (some (62, false)), false, .bin .add (.t 64) (.k (.d (.str [10])))⟩,
 ⟨(some 66), (some (62, false)), false, .bin .neq (.t 63) (.t 65)⟩,
 ⟨(some 67), none, false, .pick (.t 62) (.k (.d (.bool true))) (.t 66)⟩])
 (.cond (.t 67)
 (.exit 0)
 .skip)))
 (.seq
 (.reg false [0, 4, 5, 6] [⟨(some 68), none, false, .mov (.t 4)⟩,
 ⟨(some 69), none, false, .ld (some 2) (.t 17)⟩,
 ⟨(some 70), none, true, .bs 2 1 (.st (.cons (.str []) (.cons (.str []) .nil))) [(0, (.t 69))]⟩,
 ⟨(some 71), none, true, .app 2 32 (.t 68) (.t 70)⟩,
 ⟨(some 4), none, false, .mov (.t 71)⟩])
 (.reg false [0, 4, 5] [⟨(some 72), none, false, .mov (.t 5)⟩,
 ⟨(some 73), none, false, .mov (.t 6)⟩,
 ⟨(some 74), none, false, .len true (.t 73)⟩,
 ⟨(some 75), none, false, .bin .add (.t 74) (.k (.d (.int .i64 1)))⟩,
 ⟨(some 76), none, false, .bin .add (.t 72) (.t 75)⟩,
 ⟨(some 5), none, false, .mov (.t 76)⟩])))))))))))))
 (.seq
 (.reg false [2, 3] [⟨(some 77), none, false, .mov (.t 4)⟩,
 ⟨(some 78), none, false, .mov (.t 5)⟩,
 ⟨(some 2), none, false, .mov (.t 77)⟩,
 ⟨(some 3), none, false, .mov (.t 78)⟩])
 .ret)))))
theorem c147 : (Go.Proofs.Tryz.f147).body.bind (comp prog.P (1, (Go.Proofs.Tryz.f147).ntmps) lv147) = some m147 := by kernel_rfl
theorem r147 : resOK prog.P (Go.Proofs.Tryz.f147).results.toList = true := by kernel_rfl

/-- laws.szIntS -/
def lv150 : List (Nat × List Nat) := [(0, [0, 1]), (1, [1]), (2, [1, 10]), (3, [4]), (4, [4])]
def m150 : MC :=
  (.seq
 (.reg false [0, 1] [⟨(some 4), none, false, .mov (.k (.d (.int .i64 0)))⟩])
 (.seq
 (.reg false [1] [⟨(some 5), none, false, .mov (.t 1)⟩,
 ⟨(some 6), none, false, .mov (.t 0)⟩,
 ⟨(some 7), none, false, .len false (.t 6)⟩,
 ⟨(some 8), none, false, .bin .sub (.t 5) (.t 7)⟩,
 ⟨(some 1), none, false, .mov (.t 8)⟩])
 (.seq
 (.seq
 (.reg false [1, 10] [⟨(some 9), none, false, .mov (.t 1)⟩,
 ⟨(some 10), none, false, .bin .lss (.t 9) (.k (.d (.int .i64 0)))⟩])
 (.cond (.t 10)
 (.seq
 (.reg false [4] [⟨(some 4), none, false, .mov (.k (.d (.int .i64 (-1))))⟩])
 .ret)
 .skip))
 (.seq
 (.reg false [4] [⟨(some 11), none, false, .mov (.t 1)⟩,
 ⟨(some 4), none, false, .mov (.t 11)⟩])
 .ret))))
theorem c150 : (Go.Proofs.Tryz.f150).body.bind (comp prog.P (1, (Go.Proofs.Tryz.f150).ntmps) lv150) = some m150 := by kernel_rfl
theorem r150 : resOK prog.P (Go.Proofs.Tryz.f150).results.toList = true := by kernel_rfl

/-- spec.l16Entry -/
def lv151 : List (Nat × List Nat) := [(0, [0]), (1, [0, 3]), (2, [0, 3, 8]), (3, [0, 3]), (4, [0, 3, 4]), (5, [0, 3, 33]), (6, [2]), (7, [2])]
def m151 : MC :=
  (.seq
 (.reg false [0] [⟨(some 2), none, false, .mov (.k (.d (.bool false)))⟩])
 (.seq
 (.seq
 (.reg false [0, 3] [⟨(some 3), none, false, .mov (.k (.d (.int .i64 0)))⟩])
 (.block 0
 (.loop
 (.seq
 (.seq
 (.reg false [0, 3, 8] [⟨(some 5), none, false, .mov (.t 3)⟩,
 ⟨(some 6), none, false, .mov (.t 0)⟩,
 ⟨(some 7), none, false, .len true (.t 6)⟩,
 ⟨(some 8), none, false, .bin .lss (.t 5) (.t 7)⟩])
 (.cond (.t 8)
 .skip
 (.exit 0)))
 (.seq
 (.block 1
 (.seq
 (.reg false [0, 3, 4] [⟨(some 11), none, false, .mov (.t 0)⟩,
 ⟨(some 12), none, false, .mov (.t 3)⟩,
 ⟨(some 13), none, false, .ix (.t 11) (.t 12)⟩,
 ⟨(some 4), none, false, .mov (.t 13)⟩])
 (.seq
 (.reg false [0, 3, 33] [⟨(some 14), none, false, .mov (.t 4)⟩,
 ⟨(some 15), none, true, .call 177 [(.t 14)]⟩,
 ⟨(some 16), none, false, .un .not (.t 15)⟩,
 ⟨(some 17), none, false, .mov (.t 16)⟩,
 ⟨(some 18), (some (17, true)), false, .mov (.t 4)⟩,
 ⟨(some 19), (some (17, true)), false, .bin .geq (.t 18) (.k (.d (.int .u8 48)))⟩,
 ⟨(some 20), (some (17, true)), false, .mov (.t 19)⟩,
 ⟨(some 21), (some (20, true)), false, .mov (.t 4)⟩,
 ⟨(some 22), (some (20, true)), false, .bin .leq (.t 21) (.k (.d (.int .u8 57)))⟩,
 ⟨(some 23), (some (17, true)), false, .pick (.t 20) (.t 22) (.k (.d (.bool false)))⟩,
 ⟨(some 24), (some (17, true)), false, .un .not (.t 23)⟩,
 ⟨(some 25), none, false, .pick (.t 17) (.t 24) (.k (.d (.bool false)))⟩,
 ⟨(some 26), none, false, .mov (.t 25)⟩,
 ⟨(some 27), (some (26, true)), false, .mov (.t 4)⟩,
 ⟨(some 28), (some (26, true)), false, .bin .neq (.t 27) (.k (.d (.int .u8 32)))⟩,
 ⟨(some 29), none, false, .pick (.t 26) (.t 28) (.k (.d (.bool false)))⟩,
 ⟨(some 30), none, false, .mov (.t 29)⟩,
 ⟨(some 31), (some (30, true)), false, .mov (.t 4)⟩,
 ⟨(some 32), (some (30, true)), false, .bin .neq (.t 31) (.k (.d (.int .u8 45)))⟩,
 ⟨(some 33), none, false, .pick (.t 30) (.t 32) (.k (.d (.bool false)))⟩])
 (.cond (.t 33)
 (.seq
 (.reg false [2] [⟨(some 2), none, false, .mov (.k (.d (.bool false)))⟩])
 .ret)
 .skip))))
 (.reg false [0, 3] [⟨(some 9), none, false, .mov (.t 3)⟩,
 ⟨(some 10), none, false, .bin .add (.t 9) (.k (.d (.int .i64 1)))⟩,
 ⟨(some 3), none, false, .mov (.t 10)⟩]))))))
 (.seq
 (.reg false [2] [⟨(some 34), none, false, .mov (.t 0)⟩,
 ⟨(some 35), none, false, .len true (.t 34)⟩,
 ⟨(some 36), none, true, .call 101 [(.t 35), (.k (.d (.int .i64 1))), (.k (.d (.int .i64 40)))]⟩,
 ⟨(some 2), none, false, .mov (.t 36)⟩])
 .ret)))
theorem c151 : (Go.Proofs.Tryz.f151).body.bind (comp prog.P (1, (Go.Proofs.Tryz.f151).ntmps) lv151) = some m151 := by kernel_rfl
theorem r151 : resOK prog.P (Go.Proofs.Tryz.f151).results.toList = true := by kernel_rfl

/-- spec.l1Rising -/
def lv152 : List (Nat × List Nat) := [(0, [0, 1, 2]), (1, [0, 1, 2, 7]), (2, [0, 1, 2, 7, 11]), (3, [0, 1, 2, 7]), (4, [0, 1, 2, 7, 37]), (5, [6]), (6, [6])]
def m152 : MC :=
  (.seq
 (.reg false [0, 1, 2] [⟨(some 6), none, false, .mov (.k (.d (.bool false)))⟩])
 (.seq
 (.seq
 (.reg false [0, 1, 2, 7] [⟨(some 7), none, false, .mov (.k (.d (.int .i64 0)))⟩])
 (.block 0
 (.loop
 (.seq
 (.seq
 (.reg false [0, 1, 2, 7, 11] [⟨(some 8), none, false, .mov (.t 7)⟩,
 ⟨(some 9), none, false, .mov (.t 0)⟩,
 ⟨(some 10), none, false, .len false (.t 9)⟩,
 ⟨(some 11), none, false, .bin .lss (.t 8) (.t 10)⟩])
 (.cond (.t 11)
 .skip
 (.exit 0)))
 (.seq
 (.block 1
 (.seq
 (.reg true [0, 1, 2, 7, 37] [⟨(some 14), none, false, .mov (.t 0)⟩,
 ⟨(some 15), none, false, .mov (.t 7)⟩,
 ⟨(some 16), none, false, .ia 1 (.t 14) (.t 15)⟩,
 ⟨(some 17), none, false, .ld none (.t 16)⟩,
 ⟨(some 18), none, false, .mov (.t 1)⟩,
 ⟨(some 19), none, false, .mov (.t 2)⟩,
 ⟨(some 20), none, false, .callP 101 [(.t 17), (.t 18), (.t 19)]⟩,
 ⟨(some 21), none, false, .un .not (.t 20)⟩,
 ⟨(some 22), none, false, .mov (.t 21)⟩,
 ⟨(some 23), (some (22, false)), false, .mov (.t 7)⟩,
 ⟨(some 24), (some (22, false)), false, .bin .gtr (.t 23) (.k (.d (.int .i64 0)))⟩,
 ⟨(some 25), (some (22, false)), false, .mov (.t 24)⟩,
 ⟨(some 26), (some (25, true)), false, .mov (.t 0)⟩,
 ⟨(some 27), (some (25, true)), false, .mov (.t 7)⟩,
 ⟨(some 28), (some (25, true)), false, .bin .sub (.t 27) (.k (.d (.int .i64 1)))⟩,
 ⟨(some 29), (some (25, true)), false, .ia 1 (.t 26) (.t 28)⟩,
 ⟨(some 30), (some (25, true)), false, .ld none (.t 29)⟩,
 ⟨(some 31), (some (25, true)), false, .mov (.t 0)⟩,
 ⟨(some 32), (some (25, true)), false, .mov (.t 7)⟩,
 ⟨(some 33), (some (25, true)), false, .ia 1 (.t 31) (.t 32)⟩,
 ⟨(some 34), (some (25, true)), false, .ld none (.t 33)⟩,
 ⟨(some 35), (some (25, true)), false, .bin .geq (.t 30) (.t 34)⟩,
 ⟨(some 36), (some (22, false)), false, .pick (.t 25) (.t 35) (.k (.d (.bool false)))⟩,
 ⟨(some 37), none, false, .pick (.t 22) (.k (.d (.bool true))) (.t 36)⟩])
 (.cond (.t 37)
 (.seq
 (.reg false [6] [⟨(some 6), none, false, .mov (.k (.d (.bool false)))⟩])
 .ret)
 .skip)))
 (.reg false [0, 1, 2, 7] [⟨(some 12), none, false, .mov (.t 7)⟩,
 ⟨(some 13), none, false, .bin .add (.t 12) (.k (.d (.int .i64 1)))⟩,
 ⟨(some 7), none, false, .mov (.t 13)⟩]))))))
 (.seq
 (.reg false [6] [⟨(some 6), none, false, .mov (.k (.d (.bool true)))⟩])
 .ret)))
theorem c152 : (Go.Proofs.Tryz.f152).body.bind (comp prog.P (3, (Go.Proofs.Tryz.f152).ntmps) lv152) = some m152 := by kernel_rfl
theorem r152 : resOK prog.P (Go.Proofs.Tryz.f152).results.toList = true := by kernel_rfl

/-- laws.toIntS -/
def lv153 : List (Nat × List Nat) := [(0, [0]), (1, [0, 3]), (2, [0, 3, 4]), (3, [0, 3, 4, 11]), (4, [0, 3, 4]), (5, [0, 3, 4]), (6, [2])]
def m153 : MC :=
  (.seq
 (.reg false [0] [⟨(some 2), none, false, .mov (.k .nil)⟩])
 (.seq
 (.reg false [0, 3] [⟨(some 5), none, false, .mov (.t 0)⟩,
 ⟨(some 6), none, false, .len false (.t 5)⟩,
 ⟨(some 7), none, true, .mk 1 8 (.int .i64 0) (.t 6)⟩,
 ⟨(some 3), none, false, .mov (.t 7)⟩])
 (.seq
 (.seq
 (.reg false [0, 3, 4] [⟨(some 4), none, false, .mov (.k (.d (.int .i64 0)))⟩])
 (.block 0
 (.loop
 (.seq
 (.seq
 (.reg false [0, 3, 4, 11] [⟨(some 8), none, false, .mov (.t 4)⟩,
 ⟨(some 9), none, false, .mov (.t 0)⟩,
 ⟨(some 10), none, false, .len false (.t 9)⟩,
 ⟨(some 11), none, false, .bin .lss (.t 8) (.t 10)⟩])
 (.cond (.t 11)
 .skip
 (.exit 0)))
 (.seq
 (.block 1
 (.reg false [0, 3, 4] [⟨(some 14), none, false, .mov (.t 3)⟩,
 ⟨(some 15), none, false, .mov (.t 4)⟩,
 ⟨(some 16), none, false, .mov (.t 0)⟩,
 ⟨(some 17), none, false, .mov (.t 4)⟩,
 ⟨(some 18), none, false, .ia 1 (.t 16) (.t 17)⟩,
 ⟨(some 19), none, false, .ld none (.t 18)⟩,
 ⟨(some 20), none, false, .ia 1 (.t 14) (.t 15)⟩,
 ⟨none, none, true, .st 1 (.t 20) (.t 19)⟩]))
 (.reg false [0, 3, 4] [⟨(some 12), none, false, .mov (.t 4)⟩,
 ⟨(some 13), none, false, .bin .add (.t 12) (.k (.d (.int .i64 1)))⟩,
 ⟨(some 4), none, false, .mov (.t 13)⟩]))))))
 (.seq
 (.reg false [2] [⟨(some 21), none, false, .mov (.t 3)⟩,
 ⟨(some 2), none, false, .mov (.t 21)⟩])
 .ret))))
theorem c153 : (Go.Proofs.Tryz.f153).body.bind (comp prog.P (1, (Go.Proofs.Tryz.f153).ntmps) lv153) = some m153 := by kernel_rfl
theorem r153 : resOK prog.P (Go.Proofs.Tryz.f153).results.toList = true := by kernel_rfl

/-- laws.eqIntS -/
def lv159 : List (Nat × List Nat) := [(0, [0, 1]), (1, [0, 1, 10]), (2, [4]), (3, [0, 1, 5]), (4, [0, 1, 5, 14]), (5, [0, 1, 5]), (6, [0, 1, 5, 25]), (7, [4]), (8, [4])]
def m159 : MC :=
  (.seq
 (.reg false [0, 1] [⟨(some 4), none, false, .mov (.k (.d (.bool false)))⟩])
 (.seq
 (.seq
 (.reg false [0, 1, 10] [⟨(some 6), none, false, .mov (.t 0)⟩,
 ⟨(some 7), none, false, .len false (.t 6)⟩,
 ⟨(some 8), none, false, .mov (.t 1)⟩,
 ⟨(some 9), none, false, .len false (.t 8)⟩,
 ⟨(some 10), none, false, .bin .neq (.t 7) (.t 9)⟩])
 (.cond (.t 10)
 (.seq
 (.reg false [4] [⟨(some 4), none, false, .mov (.k (.d (.bool false)))⟩])
 .ret)
 .skip))
 (.seq
 (.seq
 (.reg false [0, 1, 5] [⟨(some 5), none, false, .mov (.k (.d (.int .i64 0)))⟩])
 (.block 0
 (.loop
 (.seq
 (.seq
 (.reg false [0, 1, 5, 14] [⟨(some 11), none, false, .mov (.t 5)⟩,
 ⟨(some 12), none, false, .mov (.t 0)⟩,
 ⟨(some 13), none, false, .len false (.t 12)⟩,
 ⟨(some 14), none, false, .bin .lss (.t 11) (.t 13)⟩])
 (.cond (.t 14)
 .skip
 (.exit 0)))
 (.seq
 (.block 1
 (.seq
 (.reg true [0, 1, 5, 25] [⟨(some 17), none, false, .mov (.t 0)⟩,
 ⟨(some 18), none, false, .mov (.t 5)⟩,
 ⟨(some 19), none, false, .ia 1 (.t 17) (.t 18)⟩,
 ⟨(some 20), none, false, .ld none (.t 19)⟩,
 ⟨(some 21), none, false, .mov (.t 1)⟩,
 ⟨(some 22), none, false, .mov (.t 5)⟩,
 ⟨(some 23), none, false, .ia 1 (.t 21) (.t 22)⟩,
 ⟨(some 24), none, false, .ld none (.t 23)⟩,
 ⟨(some 25), none, false, .bin .neq (.t 20) (.t 24)⟩])
 (.cond (.t 25)
 (.seq
 (.reg false [4] [⟨(some 4), none, false, .mov (.k (.d (.bool false)))⟩])
 .ret)
 .skip)))
 (.reg false [0, 1, 5] [⟨(some 15), none, false, .mov (.t 5)⟩,
 ⟨(some 16), none, false, .bin .add (.t 15) (.k (.d (.int .i64 1)))⟩,
 ⟨(some 5), none, false, .mov (.t 16)⟩]))))))
 (.seq
 (.reg false [4] [⟨(some 4), none, false, .mov (.k (.d (.bool true)))⟩])
 .ret))))
theorem c159 : (Go.Proofs.Tryz.f159).body.bind (comp prog.P (2, (Go.Proofs.Tryz.f159).ntmps) lv159) = some m159 := by kernel_rfl
theorem r159 : resOK prog.P (Go.Proofs.Tryz.f159).results.toList = true := by kernel_rfl

/-- slices.IndexFunc[[]string,string] -/
def lv160 : List (Nat × List Nat) := [(0, [0, 1]), (1, [0, 1, 7, 8]), (2, [0, 1, 7, 8, 9]), (3, [0, 1, 5, 7, 8]), (4, [0, 1, 5, 7, 8, 16]), (5, [4]), (6, [0, 1, 7, 8]), (7, [4])]
def m160 : MC :=
  (.seq
 (.reg false [0, 1] [⟨(some 4), none, false, .mov (.k (.d (.int .i64 0)))⟩])
 (.seq
 (.seq
 (.reg false [0, 1, 7, 8] [⟨(some 6), none, false, .mov (.t 0)⟩,
 ⟨(some 7), none, false, .len false (.t 6)⟩,
 ⟨(some 8), none, false, .mov (.k (.d (.int .i64 0)))⟩])
 (.block 0
 (.loop
 (.seq
 (.reg false [0, 1, 7, 8, 9] [⟨(some 9), none, false, .bin .lss (.t 8) (.t 7)⟩])
 (.seq
 (.cond (.t 9)
 .skip
 (.exit 0))
 (.seq
 (.block 1
 (.seq
 (.reg false [0, 1, 5, 7, 8] [⟨(some 10), none, false, .mov (.t 8)⟩,
 ⟨(some 5), none, false, .mov (.t 10)⟩])
 (.seq
 (.reg false [0, 1, 5, 7, 8, 16] [⟨(some 11), none, false, .mov (.t 1)⟩,
 ⟨(some 12), none, false, .mov (.t 0)⟩,
 ⟨(some 13), none, false, .mov (.t 5)⟩,
 ⟨(some 14), none, false, .ia 1 (.t 12) (.t 13)⟩,
 ⟨(some 15), none, false, .ld none (.t 14)⟩,
 ⟨(some 16), none, true, .callW (.t 11) [(.t 15)]⟩])
 (.cond (.t 16)
 (.seq
 (.reg false [4] [⟨(some 17), none, false, .mov (.t 5)⟩,
 ⟨(some 4), none, false, .mov (.t 17)⟩])
 .ret)
 .skip))))
 (.reg false [0, 1, 7, 8] [⟨(some 18), none, false, .bin .add (.t 8) (.k (.d (.int .i64 1)))⟩,
 ⟨(some 8), none, false, .mov (.t 18)⟩])))))))
 (.seq
 (.reg false [4] [⟨(some 4), none, false, .mov (.k (.d (.int .i64 (-1))))⟩])
 .ret)))
theorem c160 : (Go.Proofs.Tryz.f160).body.bind (comp prog.P (2, (Go.Proofs.Tryz.f160).ntmps) lv160) = some m160 := by kernel_rfl
theorem r160 : resOK prog.P (Go.Proofs.Tryz.f160).results.toList = true := by kernel_rfl

end Go.Pe.Tryz
