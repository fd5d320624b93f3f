/-
The compact code of the functions that the law reaches, printed by gen.py, each with the proof that the machine's code is compiled to it.
-/
import Derived.Test.YthndnmhihndiaaaDoorMc1
import Derived.Test.YthndnmhihndiaaaDoorProg
import Derived.KernelRfl
set_option maxRecDepth 100000
namespace Go.Pe.Tryd
open Go.Pe

/-- impl.IsLedger -/
def lv75 : List (Nat × List Nat) := [(0, [0]), (1, [2])]
def m75 : MC :=
  (.seq
 (.reg false [0] [⟨(some 2), none, false, .mov (.k (.d (.bool false)))⟩])
 (.seq
 (.reg false [2] [⟨(some 3), none, false, .mov (.t 0)⟩,
 ⟨(some 4), none, false, .len false (.t 3)⟩,
 ⟨(some 5), none, true, .call 33 [(.t 4), (.k (.d (.int .i64 1))), (.k (.d (.int .i64 8)))]⟩,
 ⟨(some 6), none, false, .mov (.t 5)⟩,
 ⟨(some 7), (some (6, true)), false, .mov (.t 0)⟩,
 ⟨(some 8), (some (6, true)), true, .call 97 [(.t 7), (.k (.d (.clo 98 .nil)))]⟩,
 ⟨(some 9), (some (6, true)), false, .un .not (.t 8)⟩,
 ⟨(some 10), none, false, .pick (.t 6) (.t 9) (.k (.d (.bool false)))⟩,
 ⟨(some 2), none, false, .mov (.t 10)⟩])
 .ret))
theorem c75 : (Go.Proofs.Tryd.f75).body.bind (comp prog.P (1, (Go.Proofs.Tryd.f75).ntmps) lv75) = some m75 := by kernel_rfl
theorem r75 : resOK prog.P (Go.Proofs.Tryd.f75).results.toList = true := by kernel_rfl

/-- impl.isCase -/
def lv76 : List (Nat × List Nat) := [(0, [1]), (1, [2])]
def m76 : MC :=
  (.seq
 (.reg false [1] [⟨(some 1), none, true, .box (.t 0)⟩,
 ⟨(some 2), none, false, .mov (.k (.d (.bool false)))⟩])
 (.seq
 (.reg false [2] [⟨(some 3), none, false, .fa 0 0 (.t 1)⟩,
 ⟨(some 4), none, false, .ld none (.t 3)⟩,
 ⟨(some 5), none, true, .call 100 [(.t 4)]⟩,
 ⟨(some 6), none, false, .mov (.t 5)⟩,
 ⟨(some 7), (some (6, true)), false, .fa 1 1 (.t 1)⟩,
 ⟨(some 8), (some (6, true)), false, .ld none (.t 7)⟩,
 ⟨(some 9), (some (6, true)), true, .call 101 [(.t 8)]⟩,
 ⟨(some 10), none, false, .pick (.t 6) (.t 9) (.k (.d (.bool false)))⟩,
 ⟨(some 11), none, false, .mov (.t 10)⟩,
 ⟨(some 12), (some (11, true)), false, .fa 2 2 (.t 1)⟩,
 ⟨(some 13), (some (11, true)), false, .ld none (.t 12)⟩,
 ⟨(some 14), (some (11, true)), true, .call 74 [(.t 13)]⟩,
 ⟨(some 15), none, false, .pick (.t 11) (.t 14) (.k (.d (.bool false)))⟩,
 ⟨(some 16), none, false, .mov (.t 15)⟩,
 ⟨(some 17), (some (16, true)), false, .fa 3 3 (.t 1)⟩,
 ⟨(some 18), (some (16, true)), false, .ld none (.t 17)⟩,
 ⟨(some 19), (some (16, true)), false, .len false (.t 18)⟩,
 ⟨(some 20), (some (16, true)), false, .bin .leq (.t 19) (.k (.d (.int .i64 5)))⟩,
 ⟨(some 21), none, false, .pick (.t 16) (.t 20) (.k (.d (.bool false)))⟩,
 ⟨(some 22), none, false, .mov (.t 21)⟩,
 ⟨(some 23), (some (22, true)), false, .fa 3 3 (.t 1)⟩,
 ⟨(some 24), (some (22, true)), false, .ld none (.t 23)⟩,
 ⟨(some 25), (some (22, true)), true, .call 102 [(.t 24)]⟩,
 ⟨(some 26), none, false, .pick (.t 22) (.t 25) (.k (.d (.bool false)))⟩,
 ⟨(some 27), none, false, .mov (.t 26)⟩,
 ⟨(some 28), (some (27, true)), false, .fa 3 3 (.t 1)⟩,
 ⟨(some 29), (some (27, true)), false, .ld none (.t 28)⟩,
 ⟨(some 30), (some (27, true)), true, .call 103 [(.t 29), (.k (.d (.clo 104 .nil)))]⟩,
 ⟨(some 31), (some (27, true)), false, .un .not (.t 30)⟩,
 ⟨(some 32), none, false, .pick (.t 27) (.t 31) (.k (.d (.bool false)))⟩,
 ⟨(some 2), none, false, .mov (.t 32)⟩])
 .ret))
theorem c76 : (Go.Proofs.Tryd.f76).body.bind (comp prog.P (1, (Go.Proofs.Tryd.f76).ntmps) lv76) = some m76 := by kernel_rfl
theorem r76 : resOK prog.P (Go.Proofs.Tryd.f76).results.toList = true := by kernel_rfl

/-- impl.hashesOf -/
def lv77 : List (Nat × List Nat) := [(0, [0]), (1, [0, 3]), (2, [3, 6, 7, 8]), (3, [3, 6, 7, 8, 9]), (4, [3, 5, 6, 7, 8]), (5, [3, 6, 7, 8]), (6, [3, 6, 7, 8]), (7, [2])]
def m77 : MC :=
  (.seq
 (.reg false [0] [⟨(some 2), none, false, .mov (.k .nil)⟩])
 (.seq
 (.reg false [0, 3] [⟨(some 3), none, false, .mov (.k .nil)⟩])
 (.seq
 (.seq
 (.reg false [3, 6, 7, 8] [⟨(some 6), none, false, .mov (.t 0)⟩,
 ⟨(some 7), none, false, .len false (.t 6)⟩,
 ⟨(some 8), none, false, .mov (.k (.d (.int .i64 0)))⟩])
 (.block 0
 (.loop
 (.seq
 (.reg false [3, 6, 7, 8, 9] [⟨(some 9), none, false, .bin .lss (.t 8) (.t 7)⟩])
 (.seq
 (.cond (.t 9)
 .skip
 (.exit 0))
 (.seq
 (.block 1
 (.seq
 (.reg false [3, 5, 6, 7, 8] [⟨(some 10), none, false, .ia 1 (.t 6) (.t 8)⟩,
 ⟨(some 11), none, false, .ld none (.t 10)⟩,
 ⟨(some 5), none, false, .mov (.t 11)⟩])
 (.reg false [3, 6, 7, 8] [⟨(some 12), none, false, .mov (.t 3)⟩,
 ⟨(some 13), none, false, .mov (.t 5)⟩,
 ⟨(some 14), none, true, .call 106 [(.t 13)]⟩,
 ⟨(some 15), none, true, .bs 1 1 (.int .i64 0) [(0, (.t 14))]⟩,
 ⟨(some 16), none, true, .app 1 8 (.t 12) (.t 15)⟩,
 ⟨(some 3), none, false, .mov (.t 16)⟩])))
 (.reg false [3, 6, 7, 8] [⟨(some 17), none, false, .bin .add (.t 8) (.k (.d (.int .i64 1)))⟩,
 ⟨(some 8), none, false, .mov (.t 17)⟩])))))))
 (.seq
 (.reg false [2] [⟨(some 18), none, false, .mov (.t 3)⟩,
 ⟨(some 2), none, false, .mov (.t 18)⟩])
 .ret))))
theorem c77 : (Go.Proofs.Tryd.f77).body.bind (comp prog.P (1, (Go.Proofs.Tryd.f77).ntmps) lv77) = some m77 := by kernel_rfl
theorem r77 : resOK prog.P (Go.Proofs.Tryd.f77).results.toList = true := by kernel_rfl

/-- laws.eqCase -/
def lv79 : List (Nat × List Nat) := [(0, [2, 3]), (1, [2, 3, 9]), (2, [4]), (3, [2, 3, 14]), (4, [4]), (5, [2, 3, 19]), (6, [4]), (7, [25]), (8, [4]), (9, [4])]
def m79 : MC :=
  (.seq
 (.reg false [2, 3] [⟨(some 2), none, true, .box (.t 0)⟩,
 ⟨(some 3), none, true, .box (.t 1)⟩,
 ⟨(some 4), none, false, .mov (.k (.d (.bool false)))⟩])
 (.seq
 (.seq
 (.reg false [2, 3, 9] [⟨(some 5), none, false, .fa 0 0 (.t 2)⟩,
 ⟨(some 6), none, false, .ld none (.t 5)⟩,
 ⟨(some 7), none, false, .fa 0 0 (.t 3)⟩,
 ⟨(some 8), none, false, .ld none (.t 7)⟩,
 ⟨(some 9), none, false, .bin .neq (.t 6) (.t 8)⟩])
 (.cond (.t 9)
 (.seq
 (.reg false [4] [⟨(some 4), none, false, .mov (.k (.d (.bool false)))⟩])
 .ret)
 .skip))
 (.seq
 (.seq
 (.reg false [2, 3, 14] [⟨(some 10), none, false, .fa 1 1 (.t 2)⟩,
 ⟨(some 11), none, false, .ld none (.t 10)⟩,
 ⟨(some 12), none, false, .fa 1 1 (.t 3)⟩,
 ⟨(some 13), none, false, .ld none (.t 12)⟩,
 ⟨(some 14), none, false, .bin .neq (.t 11) (.t 13)⟩])
 (.cond (.t 14)
 (.seq
 (.reg false [4] [⟨(some 4), none, false, .mov (.k (.d (.bool false)))⟩])
 .ret)
 .skip))
 (.seq
 (.seq
 (.reg false [2, 3, 19] [⟨(some 15), none, false, .fa 2 2 (.t 2)⟩,
 ⟨(some 16), none, false, .ld none (.t 15)⟩,
 ⟨(some 17), none, false, .fa 2 2 (.t 3)⟩,
 ⟨(some 18), none, false, .ld none (.t 17)⟩,
 ⟨(some 19), none, false, .bin .neq (.t 16) (.t 18)⟩])
 (.cond (.t 19)
 (.seq
 (.reg false [4] [⟨(some 4), none, false, .mov (.k (.d (.bool false)))⟩])
 .ret)
 .skip))
 (.seq
 (.seq
 (.reg false [25] [⟨(some 20), none, false, .fa 3 3 (.t 2)⟩,
 ⟨(some 21), none, false, .ld none (.t 20)⟩,
 ⟨(some 22), none, false, .fa 3 3 (.t 3)⟩,
 ⟨(some 23), none, false, .ld none (.t 22)⟩,
 ⟨(some 24), none, true, .call 109 [(.t 21), (.t 23)]⟩,
 ⟨(some 25), none, false, .un .not (.t 24)⟩])
 (.cond (.t 25)
 (.seq
 (.reg false [4] [⟨(some 4), none, false, .mov (.k (.d (.bool false)))⟩])
 .ret)
 .skip))
 (.seq
 (.reg false [4] [⟨(some 4), none, false, .mov (.k (.d (.bool true)))⟩])
 .ret))))))
theorem c79 : (Go.Proofs.Tryd.f79).body.bind (comp prog.P (2, (Go.Proofs.Tryd.f79).ntmps) lv79) = some m79 := by kernel_rfl
theorem r79 : resOK prog.P (Go.Proofs.Tryd.f79).results.toList = true := by kernel_rfl

/-- strings.trimLeftASCII -/
def lv85 : List (Nat × List Nat) := [(0, [0, 1]), (1, [0, 1, 7]), (2, [0, 1, 12]), (3, [0, 1]), (4, [4])]
def m85 : MC :=
  (.seq
 (.reg false [0, 1] [⟨(some 4), none, false, .mov (.k (.d (.str [])))⟩])
 (.seq
 (.block 0
 (.loop
 (.seq
 (.seq
 (.reg false [0, 1, 7] [⟨(some 5), none, false, .mov (.t 0)⟩,
 ⟨(some 6), none, false, .len true (.t 5)⟩,
 ⟨(some 7), none, false, .bin .gtr (.t 6) (.k (.d (.int .i64 0)))⟩])
 (.cond (.t 7)
 .skip
 (.exit 0)))
 (.block 1
 (.seq
 (.seq
 (.reg false [0, 1, 12] [⟨(some 8), none, false, .mov (.t 1)⟩,
 ⟨(some 9), none, false, .mov (.t 0)⟩,
 ⟨(some 10), none, false, .ix (.t 9) (.k (.d (.int .i64 0)))⟩,
 ⟨(some 11), none, true, .call 114 [(.t 8), (.t 10)]⟩,
 ⟨(some 12), none, false, .un .not (.t 11)⟩])
 (.cond (.t 12)
 (.exit 0)
 .skip))
 (.reg false [0, 1] [⟨(some 13), none, false, .mov (.t 0)⟩,
 ⟨(some 14), none, false, .sls (.t 13) (some (.k (.d (.int .i64 1)))) none⟩,
 ⟨(some 0), none, false, .mov (.t 14)⟩]))))))
 (.seq
 (.reg false [4] [⟨(some 15), none, false, .mov (.t 0)⟩,
 ⟨(some 4), none, false, .mov (.t 15)⟩])
 .ret)))
theorem c85 : (Go.Proofs.Tryd.f85).body.bind (comp prog.P (0, (Go.Proofs.Tryd.f85).ntmps) lv85) = some m85 := by kernel_rfl
theorem r85 : resOK prog.P (Go.Proofs.Tryd.f85).results.toList = true := by kernel_rfl

/-- strings.trimRightASCII -/
def lv86 : List (Nat × List Nat) := [(0, [0, 1]), (1, [0, 1, 7]), (2, [0, 1, 15]), (3, [0, 1]), (4, [4])]
def m86 : MC :=
  (.seq
 (.reg false [0, 1] [⟨(some 4), none, false, .mov (.k (.d (.str [])))⟩])
 (.seq
 (.block 0
 (.loop
 (.seq
 (.seq
 (.reg false [0, 1, 7] [⟨(some 5), none, false, .mov (.t 0)⟩,
 ⟨(some 6), none, false, .len true (.t 5)⟩,
 ⟨(some 7), none, false, .bin .gtr (.t 6) (.k (.d (.int .i64 0)))⟩])
 (.cond (.t 7)
 .skip
 (.exit 0)))
 (.block 1
 (.seq
 (.seq
 (.reg false [0, 1, 15] [⟨(some 8), none, false, .mov (.t 1)⟩,
 ⟨(some 9), none, false, .mov (.t 0)⟩,
 ⟨(some 10), none, false, .mov (.t 0)⟩,
 ⟨(some 11), none, false, .len true (.t 10)⟩,
 ⟨(some 12), none, false, .bin .sub (.t 11) (.k (.d (.int .i64 1)))⟩,
 ⟨(some 13), none, false, .ix (.t 9) (.t 12)⟩,
 ⟨(some 14), none, true, .call 114 [(.t 8), (.t 13)]⟩,
 ⟨(some 15), none, false, .un .not (.t 14)⟩])
 (.cond (.t 15)
 (.exit 0)
 .skip))
 (.reg false [0, 1] [⟨(some 16), none, false, .mov (.t 0)⟩,
 ⟨(some 17), none, false, .mov (.t 0)⟩,
 ⟨(some 18), none, false, .len true (.t 17)⟩,
 ⟨(some 19), none, false, .bin .sub (.t 18) (.k (.d (.int .i64 1)))⟩,
 ⟨(some 20), none, false, .sls (.t 16) none (some (.t 19))⟩,
 ⟨(some 0), none, false, .mov (.t 20)⟩]))))))
 (.seq
 (.reg false [4] [⟨(some 21), none, false, .mov (.t 0)⟩,
 ⟨(some 4), none, false, .mov (.t 21)⟩])
 .ret)))
theorem c86 : (Go.Proofs.Tryd.f86).body.bind (comp prog.P (0, (Go.Proofs.Tryd.f86).ntmps) lv86) = some m86 := by kernel_rfl
theorem r86 : resOK prog.P (Go.Proofs.Tryd.f86).results.toList = true := by kernel_rfl

/-- laws.szIntS -/
def lv91 : List (Nat × List Nat) := [(0, [0, 1]), (1, [1]), (2, [1, 10]), (3, [4]), (4, [4])]
def m91 : MC :=
  (.seq
 (.reg false [0, 1] [⟨(some 4), none, false, .mov (.k (.d (.int .i64 0)))⟩])
 (.seq
 (.reg false [1] [⟨(some 5), none, false, .mov (.t 1)⟩,
 ⟨(some 6), none, false, .mov (.t 0)⟩,
 ⟨(some 7), none, false, .len false (.t 6)⟩,
 ⟨(some 8), none, false, .bin .sub (.t 5) (.t 7)⟩,
 ⟨(some 1), none, false, .mov (.t 8)⟩])
 (.seq
 (.seq
 (.reg false [1, 10] [⟨(some 9), none, false, .mov (.t 1)⟩,
 ⟨(some 10), none, false, .bin .lss (.t 9) (.k (.d (.int .i64 0)))⟩])
 (.cond (.t 10)
 (.seq
 (.reg false [4] [⟨(some 4), none, false, .mov (.k (.d (.int .i64 (-1))))⟩])
 .ret)
 .skip))
 (.seq
 (.reg false [4] [⟨(some 11), none, false, .mov (.t 1)⟩,
 ⟨(some 4), none, false, .mov (.t 11)⟩])
 .ret))))
theorem c91 : (Go.Proofs.Tryd.f91).body.bind (comp prog.P (1, (Go.Proofs.Tryd.f91).ntmps) lv91) = some m91 := by kernel_rfl
theorem r91 : resOK prog.P (Go.Proofs.Tryd.f91).results.toList = true := by kernel_rfl

/-- spec.l16Entry -/
def lv92 : List (Nat × List Nat) := [(0, [0]), (1, [0, 3]), (2, [0, 3, 8]), (3, [0, 3]), (4, [0, 3, 4]), (5, [0, 3, 33]), (6, [2]), (7, [2])]
def m92 : MC :=
  (.seq
 (.reg false [0] [⟨(some 2), none, false, .mov (.k (.d (.bool false)))⟩])
 (.seq
 (.seq
 (.reg false [0, 3] [⟨(some 3), none, false, .mov (.k (.d (.int .i64 0)))⟩])
 (.block 0
 (.loop
 (.seq
 (.seq
 (.reg false [0, 3, 8] [⟨(some 5), none, false, .mov (.t 3)⟩,
 ⟨(some 6), none, false, .mov (.t 0)⟩,
 ⟨(some 7), none, false, .len true (.t 6)⟩,
 ⟨(some 8), none, false, .bin .lss (.t 5) (.t 7)⟩])
 (.cond (.t 8)
 .skip
 (.exit 0)))
 (.seq
 (.block 1
 (.seq
 (.reg false [0, 3, 4] [⟨(some 11), none, false, .mov (.t 0)⟩,
 ⟨(some 12), none, false, .mov (.t 3)⟩,
 ⟨(some 13), none, false, .ix (.t 11) (.t 12)⟩,
 ⟨(some 4), none, false, .mov (.t 13)⟩])
 (.seq
 (.reg false [0, 3, 33] [⟨(some 14), none, false, .mov (.t 4)⟩,
 ⟨(some 15), none, true, .call 119 [(.t 14)]⟩,
 ⟨(some 16), none, false, .un .not (.t 15)⟩,
 ⟨(some 17), none, false, .mov (.t 16)⟩,
 ⟨(some 18), (some (17, true)), false, .mov (.t 4)⟩,
 ⟨(some 19), (some (17, true)), false, .bin .geq (.t 18) (.k (.d (.int .u8 48)))⟩,
 ⟨(some 20), (some (17, true)), false, .mov (.t 19)⟩,
 ⟨(some 21), (some (20, true)), false, .mov (.t 4)⟩,
 ⟨(some 22), (some (20, true)), false, .bin .leq (.t 21) (.k (.d (.int .u8 57)))⟩,
 ⟨(some 23), (some (17, true)), false, .pick (.t 20) (.t 22) (.k (.d (.bool false)))⟩,
 ⟨(some 24), (some (17, true)), false, .un .not (.t 23)⟩,
 ⟨(some 25), none, false, .pick (.t 17) (.t 24) (.k (.d (.bool false)))⟩,
 ⟨(some 26), none, false, .mov (.t 25)⟩,
 ⟨(some 27), (some (26, true)), false, .mov (.t 4)⟩,
 ⟨(some 28), (some (26, true)), false, .bin .neq (.t 27) (.k (.d (.int .u8 32)))⟩,
 ⟨(some 29), none, false, .pick (.t 26) (.t 28) (.k (.d (.bool false)))⟩,
 ⟨(some 30), none, false, .mov (.t 29)⟩,
 ⟨(some 31), (some (30, true)), false, .mov (.t 4)⟩,
 ⟨(some 32), (some (30, true)), false, .bin .neq (.t 31) (.k (.d (.int .u8 45)))⟩,
 ⟨(some 33), none, false, .pick (.t 30) (.t 32) (.k (.d (.bool false)))⟩])
 (.cond (.t 33)
 (.seq
 (.reg false [2] [⟨(some 2), none, false, .mov (.k (.d (.bool false)))⟩])
 .ret)
 .skip))))
 (.reg false [0, 3] [⟨(some 9), none, false, .mov (.t 3)⟩,
 ⟨(some 10), none, false, .bin .add (.t 9) (.k (.d (.int .i64 1)))⟩,
 ⟨(some 3), none, false, .mov (.t 10)⟩]))))))
 (.seq
 (.reg false [2] [⟨(some 34), none, false, .mov (.t 0)⟩,
 ⟨(some 35), none, false, .len true (.t 34)⟩,
 ⟨(some 36), none, true, .call 61 [(.t 35), (.k (.d (.int .i64 1))), (.k (.d (.int .i64 40)))]⟩,
 ⟨(some 2), none, false, .mov (.t 36)⟩])
 .ret)))
theorem c92 : (Go.Proofs.Tryd.f92).body.bind (comp prog.P (1, (Go.Proofs.Tryd.f92).ntmps) lv92) = some m92 := by kernel_rfl
theorem r92 : resOK prog.P (Go.Proofs.Tryd.f92).results.toList = true := by kernel_rfl

/-- spec.l1Rising -/
def lv93 : List (Nat × List Nat) := [(0, [0, 1, 2]), (1, [0, 1, 2, 7]), (2, [0, 1, 2, 7, 11]), (3, [0, 1, 2, 7]), (4, [0, 1, 2, 7, 37]), (5, [6]), (6, [6])]
def m93 : MC :=
  (.seq
 (.reg false [0, 1, 2] [⟨(some 6), none, false, .mov (.k (.d (.bool false)))⟩])
 (.seq
 (.seq
 (.reg false [0, 1, 2, 7] [⟨(some 7), none, false, .mov (.k (.d (.int .i64 0)))⟩])
 (.block 0
 (.loop
 (.seq
 (.seq
 (.reg false [0, 1, 2, 7, 11] [⟨(some 8), none, false, .mov (.t 7)⟩,
 ⟨(some 9), none, false, .mov (.t 0)⟩,
 ⟨(some 10), none, false, .len false (.t 9)⟩,
 ⟨(some 11), none, false, .bin .lss (.t 8) (.t 10)⟩])
 (.cond (.t 11)
 .skip
 (.exit 0)))
 (.seq
 (.block 1
 (.seq
 (.reg true [0, 1, 2, 7, 37] [⟨(some 14), none, false, .mov (.t 0)⟩,
 ⟨(some 15), none, false, .mov (.t 7)⟩,
 ⟨(some 16), none, false, .ia 1 (.t 14) (.t 15)⟩,
 ⟨(some 17), none, false, .ld none (.t 16)⟩,
 ⟨(some 18), none, false, .mov (.t 1)⟩,
 ⟨(some 19), none, false, .mov (.t 2)⟩,
 ⟨(some 20), none, false, .callP 61 [(.t 17), (.t 18), (.t 19)]⟩,
 ⟨(some 21), none, false, .un .not (.t 20)⟩,
 ⟨(some 22), none, false, .mov (.t 21)⟩,
 ⟨(some 23), (some (22, false)), false, .mov (.t 7)⟩,
 ⟨(some 24), (some (22, false)), false, .bin .gtr (.t 23) (.k (.d (.int .i64 0)))⟩,
 ⟨(some 25), (some (22, false)), false, .mov (.t 24)⟩,
 ⟨(some 26), (some (25, true)), false, .mov (.t 0)⟩,
 ⟨(some 27), (some (25, true)), false, .mov (.t 7)⟩,
 ⟨(some 28), (some (25, true)), false, .bin .sub (.t 27) (.k (.d (.int .i64 1)))⟩,
 ⟨(some 29), (some (25, true)), false, .ia 1 (.t 26) (.t 28)⟩,
 ⟨(some 30), (some (25, true)), false, .ld none (.t 29)⟩,
 ⟨(some 31), (some (25, true)), false, .mov (.t 0)⟩,
 ⟨(some 32), (some (25, true)), false, .mov (.t 7)⟩,
 ⟨(some 33), (some (25, true)), false, .ia 1 (.t 31) (.t 32)⟩,
 ⟨(some 34), (some (25, true)), false, .ld none (.t 33)⟩,
 ⟨(some 35), (some (25, true)), false, .bin .geq (.t 30) (.t 34)⟩,
 ⟨(some 36), (some (22, false)), false, .pick (.t 25) (.t 35) (.k (.d (.bool false)))⟩,
 ⟨(some 37), none, false, .pick (.t 22) (.k (.d (.bool true))) (.t 36)⟩])
 (.cond (.t 37)
 (.seq
 (.reg false [6] [⟨(some 6), none, false, .mov (.k (.d (.bool false)))⟩])
 .ret)
 .skip)))
 (.reg false [0, 1, 2, 7] [⟨(some 12), none, false, .mov (.t 7)⟩,
 ⟨(some 13), none, false, .bin .add (.t 12) (.k (.d (.int .i64 1)))⟩,
 ⟨(some 7), none, false, .mov (.t 13)⟩]))))))
 (.seq
 (.reg false [6] [⟨(some 6), none, false, .mov (.k (.d (.bool true)))⟩])
 .ret)))
theorem c93 : (Go.Proofs.Tryd.f93).body.bind (comp prog.P (3, (Go.Proofs.Tryd.f93).ntmps) lv93) = some m93 := by kernel_rfl
theorem r93 : resOK prog.P (Go.Proofs.Tryd.f93).results.toList = true := by kernel_rfl

/-- spec.l16Leaf -/
def lv94 : List (Nat × List Nat) := [(0, [0]), (1, [2])]
def m94 : MC :=
  (.seq
 (.reg false [0] [⟨(some 2), none, false, .mov (.k (.d (.int .i64 0)))⟩])
 (.seq
 (.reg false [2] [⟨(some 3), none, false, .mov (.t 0)⟩,
 ⟨(some 4), none, false, .bin .add (.k (.d (.str [108]))) (.t 3)⟩,
 ⟨(some 5), none, true, .call 120 [(.t 4)]⟩,
 ⟨(some 2), none, false, .mov (.t 5)⟩])
 .ret))
theorem c94 : (Go.Proofs.Tryd.f94).body.bind (comp prog.P (1, (Go.Proofs.Tryd.f94).ntmps) lv94) = some m94 := by kernel_rfl
theorem r94 : resOK prog.P (Go.Proofs.Tryd.f94).results.toList = true := by kernel_rfl

/-- spec.l16Pair -/
def lv95 : List (Nat × List Nat) := [(0, [0, 1]), (1, [4])]
def m95 : MC :=
  (.seq
 (.reg false [0, 1] [⟨(some 4), none, false, .mov (.k (.d (.int .i64 0)))⟩])
 (.seq
 (.reg false [4] [⟨(some 5), none, false, .mov (.t 0)⟩,
 ⟨(some 6), none, true, .call 47 [(.t 5)]⟩,
 ⟨(some 7), none, false, .bin .add (.k (.d (.str [110]))) (.t 6)⟩,
 ⟨(some 8), none, false, .bin .add (.t 7) (.k (.d (.str [44])))⟩,
 ⟨(some 9), none, false, .mov (.t 1)⟩,
 ⟨(some 10), none, true, .call 47 [(.t 9)]⟩,
 ⟨(some 11), none, false, .bin .add (.t 8) (.t 10)⟩,
 ⟨(some 12), none, true, .call 120 [(.t 11)]⟩,
 ⟨(some 4), none, false, .mov (.t 12)⟩])
 .ret))
theorem c95 : (Go.Proofs.Tryd.f95).body.bind (comp prog.P (2, (Go.Proofs.Tryd.f95).ntmps) lv95) = some m95 := by kernel_rfl
theorem r95 : resOK prog.P (Go.Proofs.Tryd.f95).results.toList = true := by kernel_rfl

/-- laws.toIntS -/
def lv96 : List (Nat × List Nat) := [(0, [0]), (1, [0, 3]), (2, [0, 3, 4]), (3, [0, 3, 4, 11]), (4, [0, 3, 4]), (5, [0, 3, 4]), (6, [2])]
def m96 : MC :=
  (.seq
 (.reg false [0] [⟨(some 2), none, false, .mov (.k .nil)⟩])
 (.seq
 (.reg false [0, 3] [⟨(some 5), none, false, .mov (.t 0)⟩,
 ⟨(some 6), none, false, .len false (.t 5)⟩,
 ⟨(some 7), none, true, .mk 1 8 (.int .i64 0) (.t 6)⟩,
 ⟨(some 3), none, false, .mov (.t 7)⟩])
 (.seq
 (.seq
 (.reg false [0, 3, 4] [⟨(some 4), none, false, .mov (.k (.d (.int .i64 0)))⟩])
 (.block 0
 (.loop
 (.seq
 (.seq
 (.reg false [0, 3, 4, 11] [⟨(some 8), none, false, .mov (.t 4)⟩,
 ⟨(some 9), none, false, .mov (.t 0)⟩,
 ⟨(some 10), none, false, .len false (.t 9)⟩,
 ⟨(some 11), none, false, .bin .lss (.t 8) (.t 10)⟩])
 (.cond (.t 11)
 .skip
 (.exit 0)))
 (.seq
 (.block 1
 (.reg false [0, 3, 4] [⟨(some 14), none, false, .mov (.t 3)⟩,
 ⟨(some 15), none, false, .mov (.t 4)⟩,
 ⟨(some 16), none, false, .mov (.t 0)⟩,
 ⟨(some 17), none, false, .mov (.t 4)⟩,
 ⟨(some 18), none, false, .ia 1 (.t 16) (.t 17)⟩,
 ⟨(some 19), none, false, .ld none (.t 18)⟩,
 ⟨(some 20), none, false, .ia 1 (.t 14) (.t 15)⟩,
 ⟨none, none, true, .st 1 (.t 20) (.t 19)⟩]))
 (.reg false [0, 3, 4] [⟨(some 12), none, false, .mov (.t 4)⟩,
 ⟨(some 13), none, false, .bin .add (.t 12) (.k (.d (.int .i64 1)))⟩,
 ⟨(some 4), none, false, .mov (.t 13)⟩]))))))
 (.seq
 (.reg false [2] [⟨(some 21), none, false, .mov (.t 3)⟩,
 ⟨(some 2), none, false, .mov (.t 21)⟩])
 .ret))))
theorem c96 : (Go.Proofs.Tryd.f96).body.bind (comp prog.P (1, (Go.Proofs.Tryd.f96).ntmps) lv96) = some m96 := by kernel_rfl
theorem r96 : resOK prog.P (Go.Proofs.Tryd.f96).results.toList = true := by kernel_rfl

/-- slices.ContainsFunc[[]string,string] -/
def lv97 : List (Nat × List Nat) := [(0, [0, 1]), (1, [4])]
def m97 : MC :=
  (.seq
 (.reg false [0, 1] [⟨(some 4), none, false, .mov (.k (.d (.bool false)))⟩])
 (.seq
 (.reg false [4] [⟨(some 5), none, false, .mov (.t 0)⟩,
 ⟨(some 6), none, false, .mov (.t 1)⟩,
 ⟨(some 7), none, true, .call 121 [(.t 5), (.t 6)]⟩,
 ⟨(some 8), none, false, .bin .geq (.t 7) (.k (.d (.int .i64 0)))⟩,
 ⟨(some 4), none, false, .mov (.t 8)⟩])
 .ret))
theorem c97 : (Go.Proofs.Tryd.f97).body.bind (comp prog.P (2, (Go.Proofs.Tryd.f97).ntmps) lv97) = some m97 := by kernel_rfl
theorem r97 : resOK prog.P (Go.Proofs.Tryd.f97).results.toList = true := by kernel_rfl

/-- impl.IsLedger$1 -/
def lv98 : List (Nat × List Nat) := [(0, [0]), (1, [2])]
def m98 : MC :=
  (.seq
 (.reg false [0] [⟨(some 2), none, false, .mov (.k (.d (.bool false)))⟩])
 (.seq
 (.reg false [2] [⟨(some 3), none, false, .mov (.t 0)⟩,
 ⟨(some 4), none, true, .call 99 [(.t 3)]⟩,
 ⟨(some 5), none, false, .un .not (.t 4)⟩,
 ⟨(some 2), none, false, .mov (.t 5)⟩])
 .ret))
theorem c98 : (Go.Proofs.Tryd.f98).body.bind (comp prog.P (1, (Go.Proofs.Tryd.f98).ntmps) lv98) = some m98 := by kernel_rfl
theorem r98 : resOK prog.P (Go.Proofs.Tryd.f98).results.toList = true := by kernel_rfl
theorem en98 : enterOK prog.P 98 = true := by kernel_rfl

/-- impl.isEntry -/
def lv99 : List (Nat × List Nat) := [(0, [0]), (1, [2])]
def m99 : MC :=
  (.seq
 (.reg false [0] [⟨(some 2), none, false, .mov (.k (.d (.bool false)))⟩])
 (.seq
 (.reg false [2] [⟨(some 3), none, false, .mov (.t 0)⟩,
 ⟨(some 4), none, false, .len true (.t 3)⟩,
 ⟨(some 5), none, true, .call 33 [(.t 4), (.k (.d (.int .i64 1))), (.k (.d (.int .i64 40)))]⟩,
 ⟨(some 6), none, false, .mov (.t 5)⟩,
 ⟨(some 7), (some (6, true)), false, .mov (.t 0)⟩,
 ⟨(some 8), (some (6, true)), true, .call 64 [(.t 7), (.k (.d (.str [97, 98, 99, 100, 101, 102, 103, 104, 105, 106, 107, 108, 109, 110, 111, 112, 113, 114, 115, 116, 117, 118, 119, 120, 121, 122, 48, 49, 50, 51, 52, 53, 54, 55, 56, 57, 32, 45])))]⟩,
 ⟨(some 9), (some (6, true)), false, .bin .eql (.t 8) (.k (.d (.str [])))⟩,
 ⟨(some 10), none, false, .pick (.t 6) (.t 9) (.k (.d (.bool false)))⟩,
 ⟨(some 2), none, false, .mov (.t 10)⟩])
 .ret))
theorem c99 : (Go.Proofs.Tryd.f99).body.bind (comp prog.P (1, (Go.Proofs.Tryd.f99).ntmps) lv99) = some m99 := by kernel_rfl
theorem r99 : resOK prog.P (Go.Proofs.Tryd.f99).results.toList = true := by kernel_rfl

/-- impl.isRecordId -/
def lv100 : List (Nat × List Nat) := [(0, [0]), (1, [2])]
def m100 : MC :=
  (.seq
 (.reg false [0] [⟨(some 2), none, false, .mov (.k (.d (.bool false)))⟩])
 (.seq
 (.reg false [2] [⟨(some 3), none, false, .mov (.t 0)⟩,
 ⟨(some 4), none, true, .call 33 [(.t 3), (.k (.d (.int .i64 1))), (.k (.d (.int .i64 999)))]⟩,
 ⟨(some 2), none, false, .mov (.t 4)⟩])
 .ret))
theorem c100 : (Go.Proofs.Tryd.f100).body.bind (comp prog.P (1, (Go.Proofs.Tryd.f100).ntmps) lv100) = some m100 := by kernel_rfl
theorem r100 : resOK prog.P (Go.Proofs.Tryd.f100).results.toList = true := by kernel_rfl

/-- impl.isAct -/
def lv101 : List (Nat × List Nat) := [(0, [0]), (1, [2])]
def m101 : MC :=
  (.seq
 (.reg false [0] [⟨(some 2), none, false, .mov (.k (.d (.bool false)))⟩])
 (.seq
 (.reg false [2] [⟨(some 3), none, false, .mov (.t 0)⟩,
 ⟨(some 4), none, true, .call 33 [(.t 3), (.k (.d (.int .i64 1))), (.k (.d (.int .i64 3)))]⟩,
 ⟨(some 2), none, false, .mov (.t 4)⟩])
 .ret))
theorem c101 : (Go.Proofs.Tryd.f101).body.bind (comp prog.P (1, (Go.Proofs.Tryd.f101).ntmps) lv101) = some m101 := by kernel_rfl
theorem r101 : resOK prog.P (Go.Proofs.Tryd.f101).results.toList = true := by kernel_rfl

/-- impl.areRising -/
def lv102 : List (Nat × List Nat) := [(0, [0]), (1, [0, 3]), (2, [0, 3, 7]), (3, [0, 3]), (4, [0, 3, 19]), (5, [2]), (6, [2])]
def m102 : MC :=
  (.seq
 (.reg false [0] [⟨(some 2), none, false, .mov (.k (.d (.bool false)))⟩])
 (.seq
 (.seq
 (.reg false [0, 3] [⟨(some 3), none, false, .mov (.k (.d (.int .i64 1)))⟩])
 (.block 0
 (.loop
 (.seq
 (.seq
 (.reg false [0, 3, 7] [⟨(some 4), none, false, .mov (.t 3)⟩,
 ⟨(some 5), none, false, .mov (.t 0)⟩,
 ⟨(some 6), none, false, .len false (.t 5)⟩,
 ⟨(some 7), none, false, .bin .lss (.t 4) (.t 6)⟩])
 (.cond (.t 7)
 .skip
 (.exit 0)))
 (.seq
 (.block 1
 (.seq
 (.reg true [0, 3, 19] [⟨(some 10), none, false, .mov (.t 0)⟩,
 ⟨(some 11), none, false, .mov (.t 3)⟩,
 ⟨(some 12), none, false, .bin .sub (.t 11) (.k (.d (.int .i64 1)))⟩,
 ⟨(some 13), none, false, .ia 1 (.t 10) (.t 12)⟩,
 ⟨(some 14), none, false, .ld none (.t 13)⟩,
 ⟨(some 15), none, false, .mov (.t 0)⟩,
 ⟨(some 16), none, false, .mov (.t 3)⟩,
 ⟨(some 17), none, false, .ia 1 (.t 15) (.t 16)⟩,
 ⟨(some 18), none, false, .ld none (.t 17)⟩,
 ⟨(some 19), none, false, .bin .geq (.t 14) (.t 18)⟩])
 (.cond (.t 19)
 (.seq
 (.reg false [2] [⟨(some 2), none, false, .mov (.k (.d (.bool false)))⟩])
 .ret)
 .skip)))
 (.reg false [0, 3] [⟨(some 8), none, false, .mov (.t 3)⟩,
 ⟨(some 9), none, false, .bin .add (.t 8) (.k (.d (.int .i64 1)))⟩,
 ⟨(some 3), none, false, .mov (.t 9)⟩]))))))
 (.seq
 (.reg false [2] [⟨(some 2), none, false, .mov (.k (.d (.bool true)))⟩])
 .ret)))
theorem c102 : (Go.Proofs.Tryd.f102).body.bind (comp prog.P (1, (Go.Proofs.Tryd.f102).ntmps) lv102) = some m102 := by kernel_rfl
theorem r102 : resOK prog.P (Go.Proofs.Tryd.f102).results.toList = true := by kernel_rfl

/-- slices.ContainsFunc[[]int,int] -/
def lv103 : List (Nat × List Nat) := [(0, [0, 1]), (1, [4])]
def m103 : MC :=
  (.seq
 (.reg false [0, 1] [⟨(some 4), none, false, .mov (.k (.d (.bool false)))⟩])
 (.seq
 (.reg false [4] [⟨(some 5), none, false, .mov (.t 0)⟩,
 ⟨(some 6), none, false, .mov (.t 1)⟩,
 ⟨(some 7), none, true, .call 122 [(.t 5), (.t 6)]⟩,
 ⟨(some 8), none, false, .bin .geq (.t 7) (.k (.d (.int .i64 0)))⟩,
 ⟨(some 4), none, false, .mov (.t 8)⟩])
 .ret))
theorem c103 : (Go.Proofs.Tryd.f103).body.bind (comp prog.P (2, (Go.Proofs.Tryd.f103).ntmps) lv103) = some m103 := by kernel_rfl
theorem r103 : resOK prog.P (Go.Proofs.Tryd.f103).results.toList = true := by kernel_rfl

/-- impl.isCase$1 -/
def lv104 : List (Nat × List Nat) := [(0, [0]), (1, [2])]
def m104 : MC :=
  (.seq
 (.reg false [0] [⟨(some 2), none, false, .mov (.k (.d (.bool false)))⟩])
 (.seq
 (.reg false [2] [⟨(some 3), none, false, .mov (.t 0)⟩,
 ⟨(some 4), none, true, .call 105 [(.t 3)]⟩,
 ⟨(some 5), none, false, .un .not (.t 4)⟩,
 ⟨(some 2), none, false, .mov (.t 5)⟩])
 .ret))
theorem c104 : (Go.Proofs.Tryd.f104).body.bind (comp prog.P (1, (Go.Proofs.Tryd.f104).ntmps) lv104) = some m104 := by kernel_rfl
theorem r104 : resOK prog.P (Go.Proofs.Tryd.f104).results.toList = true := by kernel_rfl
theorem en104 : enterOK prog.P 104 = true := by kernel_rfl

/-- impl.isHoldNumber -/
def lv105 : List (Nat × List Nat) := [(0, [0]), (1, [2])]
def m105 : MC :=
  (.seq
 (.reg false [0] [⟨(some 2), none, false, .mov (.k (.d (.bool false)))⟩])
 (.seq
 (.reg false [2] [⟨(some 3), none, false, .mov (.t 0)⟩,
 ⟨(some 4), none, true, .call 33 [(.t 3), (.k (.d (.int .i64 1))), (.k (.d (.int .i64 9)))]⟩,
 ⟨(some 2), none, false, .mov (.t 4)⟩])
 .ret))
theorem c105 : (Go.Proofs.Tryd.f105).body.bind (comp prog.P (1, (Go.Proofs.Tryd.f105).ntmps) lv105) = some m105 := by kernel_rfl
theorem r105 : resOK prog.P (Go.Proofs.Tryd.f105).results.toList = true := by kernel_rfl

/-- impl.entryHash -/
def lv106 : List (Nat × List Nat) := [(0, [0]), (1, [3]), (2, [2])]
def m106 : MC :=
  (.seq
 (.reg false [0] [⟨(some 2), none, false, .mov (.k (.d (.int .i64 0)))⟩])
 (.seq
 (.reg false [3] [⟨(some 6), none, false, .mov (.t 0)⟩,
 ⟨(some 7), none, false, .bin .add (.k (.d (.str [108]))) (.t 6)⟩,
 ⟨(some 8), none, true, .call 123 [(.t 7)]⟩,
 ⟨(some 5), none, false, .mov (.t 8)⟩,
 ⟨(some 9), none, false, .ext (.t 5) 0⟩,
 ⟨(some 10), none, false, .ext (.t 5) 1⟩,
 ⟨(some 3), none, false, .mov (.t 9)⟩,
 ⟨(some 4), none, false, .mov (.t 10)⟩])
 (.seq
 (.reg false [2] [⟨(some 11), none, false, .mov (.t 3)⟩,
 ⟨(some 2), none, false, .mov (.t 11)⟩])
 .ret)))
theorem c106 : (Go.Proofs.Tryd.f106).body.bind (comp prog.P (1, (Go.Proofs.Tryd.f106).ntmps) lv106) = some m106 := by kernel_rfl
theorem r106 : resOK prog.P (Go.Proofs.Tryd.f106).results.toList = true := by kernel_rfl

/-- impl.pairHash -/
def lv108 : List (Nat × List Nat) := [(0, [0, 1]), (1, [5]), (2, [4])]
def m108 : MC :=
  (.seq
 (.reg false [0, 1] [⟨(some 4), none, false, .mov (.k (.d (.int .i64 0)))⟩])
 (.seq
 (.reg false [5] [⟨(some 8), none, false, .mov (.t 0)⟩,
 ⟨(some 9), none, true, .call 46 [(.t 8)]⟩,
 ⟨(some 10), none, false, .bin .add (.k (.d (.str [110]))) (.t 9)⟩,
 ⟨(some 11), none, false, .bin .add (.t 10) (.k (.d (.str [44])))⟩,
 ⟨(some 12), none, false, .mov (.t 1)⟩,
 ⟨(some 13), none, true, .call 46 [(.t 12)]⟩,
 ⟨(some 14), none, false, .bin .add (.t 11) (.t 13)⟩,
 ⟨(some 15), none, true, .call 123 [(.t 14)]⟩,
 ⟨(some 7), none, false, .mov (.t 15)⟩,
 ⟨(some 16), none, false, .ext (.t 7) 0⟩,
 ⟨(some 17), none, false, .ext (.t 7) 1⟩,
 ⟨(some 5), none, false, .mov (.t 16)⟩,
 ⟨(some 6), none, false, .mov (.t 17)⟩])
 (.seq
 (.reg false [4] [⟨(some 18), none, false, .mov (.t 5)⟩,
 ⟨(some 4), none, false, .mov (.t 18)⟩])
 .ret)))
theorem c108 : (Go.Proofs.Tryd.f108).body.bind (comp prog.P (2, (Go.Proofs.Tryd.f108).ntmps) lv108) = some m108 := by kernel_rfl
theorem r108 : resOK prog.P (Go.Proofs.Tryd.f108).results.toList = true := by kernel_rfl

/-- laws.eqIntS -/
def lv109 : List (Nat × List Nat) := [(0, [0, 1]), (1, [0, 1, 10]), (2, [4]), (3, [0, 1, 5]), (4, [0, 1, 5, 14]), (5, [0, 1, 5]), (6, [0, 1, 5, 25]), (7, [4]), (8, [4])]
def m109 : MC :=
  (.seq
 (.reg false [0, 1] [⟨(some 4), none, false, .mov (.k (.d (.bool false)))⟩])
 (.seq
 (.seq
 (.reg false [0, 1, 10] [⟨(some 6), none, false, .mov (.t 0)⟩,
 ⟨(some 7), none, false, .len false (.t 6)⟩,
 ⟨(some 8), none, false, .mov (.t 1)⟩,
 ⟨(some 9), none, false, .len false (.t 8)⟩,
 ⟨(some 10), none, false, .bin .neq (.t 7) (.t 9)⟩])
 (.cond (.t 10)
 (.seq
 (.reg false [4] [⟨(some 4), none, false, .mov (.k (.d (.bool false)))⟩])
 .ret)
 .skip))
 (.seq
 (.seq
 (.reg false [0, 1, 5] [⟨(some 5), none, false, .mov (.k (.d (.int .i64 0)))⟩])
 (.block 0
 (.loop
 (.seq
 (.seq
 (.reg false [0, 1, 5, 14] [⟨(some 11), none, false, .mov (.t 5)⟩,
 ⟨(some 12), none, false, .mov (.t 0)⟩,
 ⟨(some 13), none, false, .len false (.t 12)⟩,
 ⟨(some 14), none, false, .bin .lss (.t 11) (.t 13)⟩])
 (.cond (.t 14)
 .skip
 (.exit 0)))
 (.seq
 (.block 1
 (.seq
 (.reg true [0, 1, 5, 25] [⟨(some 17), none, false, .mov (.t 0)⟩,
 ⟨(some 18), none, false, .mov (.t 5)⟩,
 ⟨(some 19), none, false, .ia 1 (.t 17) (.t 18)⟩,
 ⟨(some 20), none, false, .ld none (.t 19)⟩,
 ⟨(some 21), none, false, .mov (.t 1)⟩,
 ⟨(some 22), none, false, .mov (.t 5)⟩,
 ⟨(some 23), none, false, .ia 1 (.t 21) (.t 22)⟩,
 ⟨(some 24), none, false, .ld none (.t 23)⟩,
 ⟨(some 25), none, false, .bin .neq (.t 20) (.t 24)⟩])
 (.cond (.t 25)
 (.seq
 (.reg false [4] [⟨(some 4), none, false, .mov (.k (.d (.bool false)))⟩])
 .ret)
 .skip)))
 (.reg false [0, 1, 5] [⟨(some 15), none, false, .mov (.t 5)⟩,
 ⟨(some 16), none, false, .bin .add (.t 15) (.k (.d (.int .i64 1)))⟩,
 ⟨(some 5), none, false, .mov (.t 16)⟩]))))))
 (.seq
 (.reg false [4] [⟨(some 4), none, false, .mov (.k (.d (.bool true)))⟩])
 .ret))))
theorem c109 : (Go.Proofs.Tryd.f109).body.bind (comp prog.P (2, (Go.Proofs.Tryd.f109).ntmps) lv109) = some m109 := by kernel_rfl
theorem r109 : resOK prog.P (Go.Proofs.Tryd.f109).results.toList = true := by kernel_rfl

/-- (*strings.asciiSet).contains -/
def lv114 : List (Nat × List Nat) := [(0, [0, 1]), (1, [0, 4])]
def m114 : MC :=
  (.seq
 (.reg false [0, 1] [⟨(some 4), none, false, .mov (.k (.d (.bool false)))⟩])
 (.seq
 (.reg false [0, 4] [⟨(some 5), none, false, .mov (.t 0)⟩,
 ⟨(some 6), none, false, .mov (.t 1)⟩,
 ⟨(some 7), none, false, .nck (.t 5)⟩,
 ⟨(some 8), none, false, .iar 256 1 (.t 7) (.t 6)⟩,
 ⟨(some 9), none, false, .ld none (.t 8)⟩,
 ⟨(some 4), none, false, .mov (.t 9)⟩])
 .ret))
theorem c114 : (Go.Proofs.Tryd.f114).body.bind (comp prog.P (2, (Go.Proofs.Tryd.f114).ntmps) lv114) = some m114 := by kernel_rfl
theorem r114 : resOK prog.P (Go.Proofs.Tryd.f114).results.toList = true := by kernel_rfl

/-- spec.l15Letter -/
def lv119 : List (Nat × List Nat) := [(0, [0]), (1, [2])]
def m119 : MC :=
  (.seq
 (.reg false [0] [⟨(some 2), none, false, .mov (.k (.d (.bool false)))⟩])
 (.seq
 (.reg false [2] [⟨(some 3), none, false, .mov (.t 0)⟩,
 ⟨(some 4), none, false, .bin .geq (.t 3) (.k (.d (.int .u8 97)))⟩,
 ⟨(some 5), none, false, .mov (.t 4)⟩,
 ⟨(some 6), (some (5, true)), false, .mov (.t 0)⟩,
 ⟨(some 7), (some (5, true)), false, .bin .leq (.t 6) (.k (.d (.int .u8 122)))⟩,
 ⟨(some 8), none, false, .pick (.t 5) (.t 7) (.k (.d (.bool false)))⟩,
 ⟨(some 2), none, false, .mov (.t 8)⟩])
 .ret))
theorem c119 : (Go.Proofs.Tryd.f119).body.bind (comp prog.P (1, (Go.Proofs.Tryd.f119).ntmps) lv119) = some m119 := by kernel_rfl
theorem r119 : resOK prog.P (Go.Proofs.Tryd.f119).results.toList = true := by kernel_rfl

/-- spec.l1Sum -/
def lv120 : List (Nat × List Nat) := [(0, [0]), (1, [0, 3]), (2, [0, 3, 4]), (3, [0, 3, 4, 8]), (4, [0, 3, 4]), (5, [0, 3, 4]), (6, [2])]
def m120 : MC :=
  (.seq
 (.reg false [0] [⟨(some 2), none, false, .mov (.k (.d (.int .i64 0)))⟩])
 (.seq
 (.reg false [0, 3] [⟨(some 3), none, false, .mov (.k (.d (.int .i64 7)))⟩])
 (.seq
 (.seq
 (.reg false [0, 3, 4] [⟨(some 4), none, false, .mov (.k (.d (.int .i64 0)))⟩])
 (.block 0
 (.loop
 (.seq
 (.seq
 (.reg false [0, 3, 4, 8] [⟨(some 5), none, false, .mov (.t 4)⟩,
 ⟨(some 6), none, false, .mov (.t 0)⟩,
 ⟨(some 7), none, false, .len true (.t 6)⟩,
 ⟨(some 8), none, false, .bin .lss (.t 5) (.t 7)⟩])
 (.cond (.t 8)
 .skip
 (.exit 0)))
 (.seq
 (.block 1
 (.reg false [0, 3, 4] [⟨(some 11), none, false, .mov (.t 3)⟩,
 ⟨(some 12), none, false, .bin .mul (.k (.d (.int .i64 41))) (.t 11)⟩,
 ⟨(some 13), none, false, .mov (.t 0)⟩,
 ⟨(some 14), none, false, .mov (.t 4)⟩,
 ⟨(some 15), none, false, .ix (.t 13) (.t 14)⟩,
 ⟨(some 16), none, false, .conv .i64 (.t 15)⟩,
 ⟨(some 17), none, false, .bin .add (.t 12) (.t 16)⟩,
 ⟨(some 18), none, false, .bin .add (.t 17) (.k (.d (.int .i64 1)))⟩,
 ⟨(some 19), none, false, .bin .rem (.t 18) (.k (.d (.int .i64 999979)))⟩,
 ⟨(some 3), none, false, .mov (.t 19)⟩]))
 (.reg false [0, 3, 4] [⟨(some 9), none, false, .mov (.t 4)⟩,
 ⟨(some 10), none, false, .bin .add (.t 9) (.k (.d (.int .i64 1)))⟩,
 ⟨(some 4), none, false, .mov (.t 10)⟩]))))))
 (.seq
 (.reg false [2] [⟨(some 20), none, false, .mov (.t 3)⟩,
 ⟨(some 2), none, false, .mov (.t 20)⟩])
 .ret))))
theorem c120 : (Go.Proofs.Tryd.f120).body.bind (comp prog.P (1, (Go.Proofs.Tryd.f120).ntmps) lv120) = some m120 := by kernel_rfl
theorem r120 : resOK prog.P (Go.Proofs.Tryd.f120).results.toList = true := by kernel_rfl

/-- slices.IndexFunc[[]string,string] -/
def lv121 : List (Nat × List Nat) := [(0, [0, 1]), (1, [0, 1, 7, 8]), (2, [0, 1, 7, 8, 9]), (3, [0, 1, 5, 7, 8]), (4, [0, 1, 5, 7, 8, 16]), (5, [4]), (6, [0, 1, 7, 8]), (7, [4])]
def m121 : MC :=
  (.seq
 (.reg false [0, 1] [⟨(some 4), none, false, .mov (.k (.d (.int .i64 0)))⟩])
 (.seq
 (.seq
 (.reg false [0, 1, 7, 8] [⟨(some 6), none, false, .mov (.t 0)⟩,
 ⟨(some 7), none, false, .len false (.t 6)⟩,
 ⟨(some 8), none, false, .mov (.k (.d (.int .i64 0)))⟩])
 (.block 0
 (.loop
 (.seq
 (.reg false [0, 1, 7, 8, 9] [⟨(some 9), none, false, .bin .lss (.t 8) (.t 7)⟩])
 (.seq
 (.cond (.t 9)
 .skip
 (.exit 0))
 (.seq
 (.block 1
 (.seq
 (.reg false [0, 1, 5, 7, 8] [⟨(some 10), none, false, .mov (.t 8)⟩,
 ⟨(some 5), none, false, .mov (.t 10)⟩])
 (.seq
 (.reg false [0, 1, 5, 7, 8, 16] [⟨(some 11), none, false, .mov (.t 1)⟩,
 ⟨(some 12), none, false, .mov (.t 0)⟩,
 ⟨(some 13), none, false, .mov (.t 5)⟩,
 ⟨(some 14), none, false, .ia 1 (.t 12) (.t 13)⟩,
 ⟨(some 15), none, false, .ld none (.t 14)⟩,
 ⟨(some 16), none, true, .callW (.t 11) [(.t 15)]⟩])
 (.cond (.t 16)
 (.seq
 (.reg false [4] [⟨(some 17), none, false, .mov (.t 5)⟩,
 ⟨(some 4), none, false, .mov (.t 17)⟩])
 .ret)
 .skip))))
 (.reg false [0, 1, 7, 8] [⟨(some 18), none, false, .bin .add (.t 8) (.k (.d (.int .i64 1)))⟩,
 ⟨(some 8), none, false, .mov (.t 18)⟩])))))))
 (.seq
 (.reg false [4] [⟨(some 4), none, false, .mov (.k (.d (.int .i64 (-1))))⟩])
 .ret)))
theorem c121 : (Go.Proofs.Tryd.f121).body.bind (comp prog.P (2, (Go.Proofs.Tryd.f121).ntmps) lv121) = some m121 := by kernel_rfl
theorem r121 : resOK prog.P (Go.Proofs.Tryd.f121).results.toList = true := by kernel_rfl

/-- slices.IndexFunc[[]int,int] -/
def lv122 : List (Nat × List Nat) := [(0, [0, 1]), (1, [0, 1, 7, 8]), (2, [0, 1, 7, 8, 9]), (3, [0, 1, 5, 7, 8]), (4, [0, 1, 5, 7, 8, 16]), (5, [4]), (6, [0, 1, 7, 8]), (7, [4])]
def m122 : MC :=
  (.seq
 (.reg false [0, 1] [⟨(some 4), none, false, .mov (.k (.d (.int .i64 0)))⟩])
 (.seq
 (.seq
 (.reg false [0, 1, 7, 8] [⟨(some 6), none, false, .mov (.t 0)⟩,
 ⟨(some 7), none, false, .len false (.t 6)⟩,
 ⟨(some 8), none, false, .mov (.k (.d (.int .i64 0)))⟩])
 (.block 0
 (.loop
 (.seq
 (.reg false [0, 1, 7, 8, 9] [⟨(some 9), none, false, .bin .lss (.t 8) (.t 7)⟩])
 (.seq
 (.cond (.t 9)
 .skip
 (.exit 0))
 (.seq
 (.block 1
 (.seq
 (.reg false [0, 1, 5, 7, 8] [⟨(some 10), none, false, .mov (.t 8)⟩,
 ⟨(some 5), none, false, .mov (.t 10)⟩])
 (.seq
 (.reg false [0, 1, 5, 7, 8, 16] [⟨(some 11), none, false, .mov (.t 1)⟩,
 ⟨(some 12), none, false, .mov (.t 0)⟩,
 ⟨(some 13), none, false, .mov (.t 5)⟩,
 ⟨(some 14), none, false, .ia 1 (.t 12) (.t 13)⟩,
 ⟨(some 15), none, false, .ld none (.t 14)⟩,
 ⟨(some 16), none, true, .callW (.t 11) [(.t 15)]⟩])
 (.cond (.t 16)
 (.seq
 (.reg false [4] [⟨(some 17), none, false, .mov (.t 5)⟩,
 ⟨(some 4), none, false, .mov (.t 17)⟩])
 .ret)
 .skip))))
 (.reg false [0, 1, 7, 8] [⟨(some 18), none, false, .bin .add (.t 8) (.k (.d (.int .i64 1)))⟩,
 ⟨(some 8), none, false, .mov (.t 18)⟩])))))))
 (.seq
 (.reg false [4] [⟨(some 4), none, false, .mov (.k (.d (.int .i64 (-1))))⟩])
 .ret)))
theorem c122 : (Go.Proofs.Tryd.f122).body.bind (comp prog.P (2, (Go.Proofs.Tryd.f122).ntmps) lv122) = some m122 := by kernel_rfl
theorem r122 : resOK prog.P (Go.Proofs.Tryd.f122).results.toList = true := by kernel_rfl

/-- impl.Checksum -/
def lv123 : List (Nat × List Nat) := [(0, [0]), (1, [0, 6]), (2, [2, 3]), (3, [2, 3])]
def m123 : MC :=
  (.seq
 (.reg false [0] [⟨(some 2), none, false, .mov (.k (.d (.int .i64 0)))⟩,
 ⟨(some 3), none, false, .mov (.k (.d (.bool false)))⟩])
 (.seq
 (.seq
 (.reg false [0, 6] [⟨(some 4), none, false, .mov (.t 0)⟩,
 ⟨(some 5), none, false, .len true (.t 4)⟩,
 ⟨(some 6), none, false, .bin .gtr (.t 5) (.k (.d (.int .i64 4000)))⟩])
 (.cond (.t 6)
 (.seq
 (.reg false [2, 3] [⟨(some 2), none, false, .mov (.k (.d (.int .i64 0)))⟩,
 ⟨(some 3), none, false, .mov (.k (.d (.bool false)))⟩])
 .ret)
 .skip))
 (.seq
 (.reg false [2, 3] [⟨(some 7), none, false, .mov (.t 0)⟩,
 ⟨(some 8), none, true, .call 134 [(.t 7)]⟩,
 ⟨(some 2), none, false, .mov (.t 8)⟩,
 ⟨(some 3), none, false, .mov (.k (.d (.bool true)))⟩])
 .ret)))
theorem c123 : (Go.Proofs.Tryd.f123).body.bind (comp prog.P (1, (Go.Proofs.Tryd.f123).ntmps) lv123) = some m123 := by kernel_rfl
theorem r123 : resOK prog.P (Go.Proofs.Tryd.f123).results.toList = true := by kernel_rfl

/-- impl.checksum -/
def lv134 : List (Nat × List Nat) := [(0, [0]), (1, [0, 3]), (2, [0, 3, 6, 7]), (3, [0, 3, 6, 7, 8]), (4, [0, 3, 4, 6, 7]), (5, [0, 3, 6, 7]), (6, [0, 3, 6, 7]), (7, [2])]
def m134 : MC :=
  (.seq
 (.reg false [0] [⟨(some 2), none, false, .mov (.k (.d (.int .i64 0)))⟩])
 (.seq
 (.reg false [0, 3] [⟨(some 3), none, false, .mov (.k (.d (.int .i64 7)))⟩])
 (.seq
 (.seq
 (.reg false [0, 3, 6, 7] [⟨(some 5), none, false, .mov (.t 0)⟩,
 ⟨(some 6), none, false, .len true (.t 5)⟩,
 ⟨(some 7), none, false, .mov (.k (.d (.int .i64 0)))⟩])
 (.block 0
 (.loop
 (.seq
 (.reg false [0, 3, 6, 7, 8] [⟨(some 8), none, false, .bin .lss (.t 7) (.t 6)⟩])
 (.seq
 (.cond (.t 8)
 .skip
 (.exit 0))
 (.seq
 (.block 1
 (.seq
 (.reg false [0, 3, 4, 6, 7] [⟨(some 9), none, false, .mov (.t 7)⟩,
 ⟨(some 4), none, false, .mov (.t 9)⟩])
 (.reg false [0, 3, 6, 7] [⟨(some 10), none, false, .mov (.t 3)⟩,
 ⟨(some 11), none, false, .bin .mul (.k (.d (.int .i64 41))) (.t 10)⟩,
 ⟨(some 12), none, false, .mov (.t 0)⟩,
 ⟨(some 13), none, false, .mov (.t 4)⟩,
 ⟨(some 14), none, false, .ix (.t 12) (.t 13)⟩,
 ⟨(some 15), none, false, .conv .i64 (.t 14)⟩,
 ⟨(some 16), none, false, .bin .add (.t 11) (.t 15)⟩,
 ⟨(some 17), none, false, .bin .add (.t 16) (.k (.d (.int .i64 1)))⟩,
 ⟨(some 18), none, false, .bin .rem (.t 17) (.k (.d (.int .i64 999979)))⟩,
 ⟨(some 3), none, false, .mov (.t 18)⟩])))
 (.reg false [0, 3, 6, 7] [⟨(some 19), none, false, .bin .add (.t 7) (.k (.d (.int .i64 1)))⟩,
 ⟨(some 7), none, false, .mov (.t 19)⟩])))))))
 (.seq
 (.reg false [2] [⟨(some 20), none, false, .mov (.t 3)⟩,
 ⟨(some 2), none, false, .mov (.t 20)⟩])
 .ret))))
theorem c134 : (Go.Proofs.Tryd.f134).body.bind (comp prog.P (1, (Go.Proofs.Tryd.f134).ntmps) lv134) = some m134 := by kernel_rfl
theorem r134 : resOK prog.P (Go.Proofs.Tryd.f134).results.toList = true := by kernel_rfl

end Go.Pe.Tryd
