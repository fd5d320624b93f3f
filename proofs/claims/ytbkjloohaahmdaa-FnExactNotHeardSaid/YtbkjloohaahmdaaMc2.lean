/-
The compact code of the functions that the law reaches, printed by gen.py, each with the proof that the machine's code is compiled to it.
-/
import Derived.Test.YtbkjloohaahmdaaMc1
import Derived.Test.YtbkjloohaahmdaaProg
import Derived.KernelRfl
set_option maxRecDepth 100000
namespace Go.Pe.Try
open Go.Pe

/-- slices.Clone[[]int,int] -/
def lv68 : List (Nat × List Nat) := [(0, [0]), (1, [0, 4]), (2, [2]), (3, [2])]
def m68 : MC :=
  (.seq
 (.reg false [0] [⟨(some 2), none, false, .mov (.k .nil)⟩])
 (.seq
 (.seq
 (.reg false [0, 4] [⟨(some 3), none, false, .mov (.t 0)⟩,
 ⟨(some 4), none, true, .snil false (.t 3)⟩])
 (.cond (.t 4)
 (.seq
 (.reg false [2] [⟨(some 2), none, false, .mov (.k .nil)⟩])
 .ret)
 .skip))
 (.seq
 (.reg false [2] [⟨(some 5), none, true, .bs 1 0 (.int .i64 0) []⟩,
 ⟨(some 6), none, false, .mov (.t 0)⟩,
 ⟨(some 7), none, true, .app 1 8 (.t 5) (.t 6)⟩,
 ⟨(some 2), none, false, .mov (.t 7)⟩])
 .ret)))
theorem c68 : (Go.Proofs.Try.f68).body.bind (comp prog.P (1, (Go.Proofs.Try.f68).ntmps) lv68) = some m68 := by kernel_rfl
theorem r68 : resOK prog.P (Go.Proofs.Try.f68).results.toList = true := by kernel_rfl

/-- impl.NotHeard$1 -/
def lv69 : List (Nat × List Nat) := [(0, [0, 1, 2]), (1, [4])]
def m69 : MC :=
  (.seq
 (.reg false [0, 1, 2] [⟨(some 4), none, false, .mov (.k (.d (.bool false)))⟩])
 (.seq
 (.reg false [4] [⟨(some 5), none, false, .ld none (.t 1)⟩,
 ⟨(some 6), none, false, .ld none (.t 2)⟩,
 ⟨(some 7), none, false, .ia 6 (.t 5) (.t 6)⟩,
 ⟨(some 8), none, false, .fa 4 4 (.t 7)⟩,
 ⟨(some 9), none, false, .ld none (.t 8)⟩,
 ⟨(some 10), none, false, .mov (.t 0)⟩,
 ⟨(some 11), none, true, .call 70 [(.t 9), (.t 10)]⟩,
 ⟨(some 4), none, false, .mov (.t 11)⟩])
 .ret))
theorem c69 : (Go.Proofs.Try.f69).body.bind (comp prog.P (3, (Go.Proofs.Try.f69).ntmps) lv69) = some m69 := by kernel_rfl
theorem r69 : resOK prog.P (Go.Proofs.Try.f69).results.toList = true := by kernel_rfl
theorem en69 : enterOK prog.P 69 = true := by kernel_rfl

/-- slices.Contains[[]int,int] -/
def lv70 : List (Nat × List Nat) := [(0, [0, 1]), (1, [4])]
def m70 : MC :=
  (.seq
 (.reg false [0, 1] [⟨(some 4), none, false, .mov (.k (.d (.bool false)))⟩])
 (.seq
 (.reg false [4] [⟨(some 5), none, false, .mov (.t 0)⟩,
 ⟨(some 6), none, false, .mov (.t 1)⟩,
 ⟨(some 7), none, true, .call 75 [(.t 5), (.t 6)]⟩,
 ⟨(some 8), none, false, .bin .geq (.t 7) (.k (.d (.int .i64 0)))⟩,
 ⟨(some 4), none, false, .mov (.t 8)⟩])
 .ret))
theorem c70 : (Go.Proofs.Try.f70).body.bind (comp prog.P (2, (Go.Proofs.Try.f70).ntmps) lv70) = some m70 := by kernel_rfl
theorem r70 : resOK prog.P (Go.Proofs.Try.f70).results.toList = true := by kernel_rfl

/-- laws.eqAppeal -/
def lv71 : List (Nat × List Nat) := [(0, [2, 3]), (1, [2, 3, 9]), (2, [4]), (3, [2, 3, 14]), (4, [4]), (5, [2, 3, 19]), (6, [4]), (7, [2, 3, 25]), (8, [4]), (9, [2, 3, 31]), (10, [4]), (11, [36]), (12, [4]), (13, [4])]
def m71 : MC :=
  (.seq
 (.reg false [2, 3] [⟨(some 2), none, true, .box (.t 0)⟩,
 ⟨(some 3), none, true, .box (.t 1)⟩,
 ⟨(some 4), none, false, .mov (.k (.d (.bool false)))⟩])
 (.seq
 (.seq
 (.reg false [2, 3, 9] [⟨(some 5), none, false, .fa 0 0 (.t 2)⟩,
 ⟨(some 6), none, false, .ld none (.t 5)⟩,
 ⟨(some 7), none, false, .fa 0 0 (.t 3)⟩,
 ⟨(some 8), none, false, .ld none (.t 7)⟩,
 ⟨(some 9), none, false, .bin .neq (.t 6) (.t 8)⟩])
 (.cond (.t 9)
 (.seq
 (.reg false [4] [⟨(some 4), none, false, .mov (.k (.d (.bool false)))⟩])
 .ret)
 .skip))
 (.seq
 (.seq
 (.reg false [2, 3, 14] [⟨(some 10), none, false, .fa 1 1 (.t 2)⟩,
 ⟨(some 11), none, false, .ld none (.t 10)⟩,
 ⟨(some 12), none, false, .fa 1 1 (.t 3)⟩,
 ⟨(some 13), none, false, .ld none (.t 12)⟩,
 ⟨(some 14), none, false, .bin .neq (.t 11) (.t 13)⟩])
 (.cond (.t 14)
 (.seq
 (.reg false [4] [⟨(some 4), none, false, .mov (.k (.d (.bool false)))⟩])
 .ret)
 .skip))
 (.seq
 (.seq
 (.reg false [2, 3, 19] [⟨(some 15), none, false, .fa 2 2 (.t 2)⟩,
 ⟨(some 16), none, false, .ld none (.t 15)⟩,
 ⟨(some 17), none, false, .fa 2 2 (.t 3)⟩,
 ⟨(some 18), none, false, .ld none (.t 17)⟩,
 ⟨(some 19), none, false, .bin .neq (.t 16) (.t 18)⟩])
 (.cond (.t 19)
 (.seq
 (.reg false [4] [⟨(some 4), none, false, .mov (.k (.d (.bool false)))⟩])
 .ret)
 .skip))
 (.seq
 (.seq
 (.reg false [2, 3, 25] [⟨(some 20), none, false, .fa 3 3 (.t 2)⟩,
 ⟨(some 21), none, false, .ld none (.t 20)⟩,
 ⟨(some 22), none, false, .fa 3 3 (.t 3)⟩,
 ⟨(some 23), none, false, .ld none (.t 22)⟩,
 ⟨(some 24), none, true, .call 11 [(.t 21), (.t 23)]⟩,
 ⟨(some 25), none, false, .un .not (.t 24)⟩])
 (.cond (.t 25)
 (.seq
 (.reg false [4] [⟨(some 4), none, false, .mov (.k (.d (.bool false)))⟩])
 .ret)
 .skip))
 (.seq
 (.seq
 (.reg false [2, 3, 31] [⟨(some 26), none, false, .fa 4 4 (.t 2)⟩,
 ⟨(some 27), none, false, .ld none (.t 26)⟩,
 ⟨(some 28), none, false, .fa 4 4 (.t 3)⟩,
 ⟨(some 29), none, false, .ld none (.t 28)⟩,
 ⟨(some 30), none, true, .call 11 [(.t 27), (.t 29)]⟩,
 ⟨(some 31), none, false, .un .not (.t 30)⟩])
 (.cond (.t 31)
 (.seq
 (.reg false [4] [⟨(some 4), none, false, .mov (.k (.d (.bool false)))⟩])
 .ret)
 .skip))
 (.seq
 (.seq
 (.reg false [36] [⟨(some 32), none, false, .fa 5 5 (.t 2)⟩,
 ⟨(some 33), none, false, .ld none (.t 32)⟩,
 ⟨(some 34), none, false, .fa 5 5 (.t 3)⟩,
 ⟨(some 35), none, false, .ld none (.t 34)⟩,
 ⟨(some 36), none, false, .bin .neq (.t 33) (.t 35)⟩])
 (.cond (.t 36)
 (.seq
 (.reg false [4] [⟨(some 4), none, false, .mov (.k (.d (.bool false)))⟩])
 .ret)
 .skip))
 (.seq
 (.reg false [4] [⟨(some 4), none, false, .mov (.k (.d (.bool true)))⟩])
 .ret))))))))
theorem c71 : (Go.Proofs.Try.f71).body.bind (comp prog.P (2, (Go.Proofs.Try.f71).ntmps) lv71) = some m71 := by kernel_rfl
theorem r71 : resOK prog.P (Go.Proofs.Try.f71).results.toList = true := by kernel_rfl

/-- slices.Index[[]int,int] -/
def lv75 : List (Nat × List Nat) := [(0, [0, 1]), (1, [0, 1, 7, 8]), (2, [0, 1, 7, 8, 9]), (3, [0, 1, 5, 7, 8]), (4, [0, 1, 5, 7, 8, 16]), (5, [4]), (6, [0, 1, 7, 8]), (7, [4])]
def m75 : MC :=
  (.seq
 (.reg false [0, 1] [⟨(some 4), none, false, .mov (.k (.d (.int .i64 0)))⟩])
 (.seq
 (.seq
 (.reg false [0, 1, 7, 8] [⟨(some 6), none, false, .mov (.t 0)⟩,
 ⟨(some 7), none, false, .len false (.t 6)⟩,
 ⟨(some 8), none, false, .mov (.k (.d (.int .i64 0)))⟩])
 (.block 0
 (.loop
 (.seq
 (.reg false [0, 1, 7, 8, 9] [⟨(some 9), none, false, .bin .lss (.t 8) (.t 7)⟩])
 (.seq
 (.cond (.t 9)
 .skip
 (.exit 0))
 (.seq
 (.block 1
 (.seq
 (.reg false [0, 1, 5, 7, 8] [⟨(some 10), none, false, .mov (.t 8)⟩,
 ⟨(some 5), none, false, .mov (.t 10)⟩])
 (.seq
 (.reg false [0, 1, 5, 7, 8, 16] [⟨(some 11), none, false, .mov (.t 1)⟩,
 ⟨(some 12), none, false, .mov (.t 0)⟩,
 ⟨(some 13), none, false, .mov (.t 5)⟩,
 ⟨(some 14), none, false, .ia 1 (.t 12) (.t 13)⟩,
 ⟨(some 15), none, false, .ld none (.t 14)⟩,
 ⟨(some 16), none, false, .bin .eql (.t 11) (.t 15)⟩])
 (.cond (.t 16)
 (.seq
 (.reg false [4] [⟨(some 17), none, false, .mov (.t 5)⟩,
 ⟨(some 4), none, false, .mov (.t 17)⟩])
 .ret)
 .skip))))
 (.reg false [0, 1, 7, 8] [⟨(some 18), none, false, .bin .add (.t 8) (.k (.d (.int .i64 1)))⟩,
 ⟨(some 8), none, false, .mov (.t 18)⟩])))))))
 (.seq
 (.reg false [4] [⟨(some 4), none, false, .mov (.k (.d (.int .i64 (-1))))⟩])
 .ret)))
theorem c75 : (Go.Proofs.Try.f75).body.bind (comp prog.P (2, (Go.Proofs.Try.f75).ntmps) lv75) = some m75 := by kernel_rfl
theorem r75 : resOK prog.P (Go.Proofs.Try.f75).results.toList = true := by kernel_rfl

/-- impl.reduced -/
def lv82 : List (Nat × List Nat) := [(0, [0, 1]), (1, [0, 1, 6]), (2, [4, 5])]
def m82 : MC :=
  (.seq
 (.reg false [0, 1] [⟨(some 4), none, false, .mov (.k (.d (.int .i64 0)))⟩,
 ⟨(some 5), none, false, .mov (.k (.d (.int .i64 0)))⟩])
 (.seq
 (.reg false [0, 1, 6] [⟨(some 7), none, false, .mov (.t 0)⟩,
 ⟨(some 8), none, false, .mov (.t 1)⟩,
 ⟨(some 9), none, true, .call 127 [(.t 7), (.t 8)]⟩,
 ⟨(some 6), none, false, .mov (.t 9)⟩])
 (.seq
 (.reg true [4, 5] [⟨(some 10), none, false, .mov (.t 0)⟩,
 ⟨(some 11), none, false, .mov (.t 6)⟩,
 ⟨(some 12), none, false, .bin .quo (.t 10) (.t 11)⟩,
 ⟨(some 13), none, false, .mov (.t 1)⟩,
 ⟨(some 14), none, false, .mov (.t 6)⟩,
 ⟨(some 15), none, false, .bin .quo (.t 13) (.t 14)⟩,
 ⟨(some 4), none, false, .mov (.t 12)⟩,
 ⟨(some 5), none, false, .mov (.t 15)⟩])
 .ret)))
theorem c82 : (Go.Proofs.Try.f82).body.bind (comp prog.P (2, (Go.Proofs.Try.f82).ntmps) lv82) = some m82 := by kernel_rfl
theorem r82 : resOK prog.P (Go.Proofs.Try.f82).results.toList = true := by kernel_rfl

/-- spec.l2Reduce -/
def lv83 : List (Nat × List Nat) := [(0, [0, 1]), (1, [0, 1, 6, 7]), (2, [0, 1, 6, 7, 15]), (3, [0, 1, 7, 8]), (4, [0, 1, 6, 8]), (5, [0, 1, 6, 7]), (6, [4, 5])]
def m83 : MC :=
  (.seq
 (.reg false [0, 1] [⟨(some 4), none, false, .mov (.k (.d (.int .i64 0)))⟩,
 ⟨(some 5), none, false, .mov (.k (.d (.int .i64 0)))⟩])
 (.seq
 (.reg false [0, 1, 6, 7] [⟨(some 9), none, false, .mov (.t 0)⟩,
 ⟨(some 10), none, false, .mov (.t 0)⟩,
 ⟨(some 11), none, false, .un .neg (.t 10)⟩,
 ⟨(some 12), none, true, .call 100 [(.t 9), (.t 11)]⟩,
 ⟨(some 13), none, false, .mov (.t 1)⟩,
 ⟨(some 6), none, false, .mov (.t 12)⟩,
 ⟨(some 7), none, false, .mov (.t 13)⟩])
 (.seq
 (.block 0
 (.loop
 (.seq
 (.seq
 (.reg false [0, 1, 6, 7, 15] [⟨(some 14), none, false, .mov (.t 7)⟩,
 ⟨(some 15), none, false, .bin .neq (.t 14) (.k (.d (.int .i64 0)))⟩])
 (.cond (.t 15)
 .skip
 (.exit 0)))
 (.block 1
 (.seq
 (.reg false [0, 1, 7, 8] [⟨(some 16), none, false, .mov (.t 6)⟩,
 ⟨(some 17), none, false, .mov (.t 7)⟩,
 ⟨(some 18), none, false, .bin .rem (.t 16) (.t 17)⟩,
 ⟨(some 8), none, false, .mov (.t 18)⟩])
 (.seq
 (.reg false [0, 1, 6, 8] [⟨(some 19), none, false, .mov (.t 7)⟩,
 ⟨(some 6), none, false, .mov (.t 19)⟩])
 (.reg false [0, 1, 6, 7] [⟨(some 20), none, false, .mov (.t 8)⟩,
 ⟨(some 7), none, false, .mov (.t 20)⟩])))))))
 (.seq
 (.reg true [4, 5] [⟨(some 21), none, false, .mov (.t 0)⟩,
 ⟨(some 22), none, false, .mov (.t 6)⟩,
 ⟨(some 23), none, false, .bin .quo (.t 21) (.t 22)⟩,
 ⟨(some 24), none, false, .mov (.t 1)⟩,
 ⟨(some 25), none, false, .mov (.t 6)⟩,
 ⟨(some 26), none, false, .bin .quo (.t 24) (.t 25)⟩,
 ⟨(some 4), none, false, .mov (.t 23)⟩,
 ⟨(some 5), none, false, .mov (.t 26)⟩])
 .ret))))
theorem c83 : (Go.Proofs.Try.f83).body.bind (comp prog.P (2, (Go.Proofs.Try.f83).ntmps) lv83) = some m83 := by kernel_rfl
theorem r83 : resOK prog.P (Go.Proofs.Try.f83).results.toList = true := by kernel_rfl

/-- impl.isParty -/
def lv87 : List (Nat × List Nat) := [(0, [0]), (1, [2])]
def m87 : MC :=
  (.seq
 (.reg false [0] [⟨(some 2), none, false, .mov (.k (.d (.bool false)))⟩])
 (.seq
 (.reg false [2] [⟨(some 3), none, false, .mov (.t 0)⟩,
 ⟨(some 4), none, true, .call 111 [(.t 3), (.k (.d (.int .i64 1))), (.k (.d (.int .i64 50)))]⟩,
 ⟨(some 2), none, false, .mov (.t 4)⟩])
 .ret))
theorem c87 : (Go.Proofs.Try.f87).body.bind (comp prog.P (1, (Go.Proofs.Try.f87).ntmps) lv87) = some m87 := by kernel_rfl
theorem r87 : resOK prog.P (Go.Proofs.Try.f87).results.toList = true := by kernel_rfl

/-- impl.isDay -/
def lv94 : List (Nat × List Nat) := [(0, [0]), (1, [2])]
def m94 : MC :=
  (.seq
 (.reg false [0] [⟨(some 2), none, false, .mov (.k (.d (.bool false)))⟩])
 (.seq
 (.reg false [2] [⟨(some 3), none, false, .mov (.t 0)⟩,
 ⟨(some 4), none, true, .call 111 [(.t 3), (.k (.d (.int .i64 0))), (.k (.d (.int .i64 20000)))]⟩,
 ⟨(some 2), none, false, .mov (.t 4)⟩])
 .ret))
theorem c94 : (Go.Proofs.Try.f94).body.bind (comp prog.P (1, (Go.Proofs.Try.f94).ntmps) lv94) = some m94 := by kernel_rfl
theorem r94 : resOK prog.P (Go.Proofs.Try.f94).results.toList = true := by kernel_rfl

/-- spec.l2Day -/
def lv96 : List (Nat × List Nat) := [(0, [0]), (1, [2])]
def m96 : MC :=
  (.seq
 (.reg false [0] [⟨(some 2), none, false, .mov (.k (.d (.bool false)))⟩])
 (.seq
 (.reg false [2] [⟨(some 3), none, false, .mov (.t 0)⟩,
 ⟨(some 4), none, true, .call 131 [(.t 3), (.k (.d (.int .i64 0))), (.k (.d (.int .i64 20000)))]⟩,
 ⟨(some 2), none, false, .mov (.t 4)⟩])
 .ret))
theorem c96 : (Go.Proofs.Try.f96).body.bind (comp prog.P (1, (Go.Proofs.Try.f96).ntmps) lv96) = some m96 := by kernel_rfl
theorem r96 : resOK prog.P (Go.Proofs.Try.f96).results.toList = true := by kernel_rfl

/-- impl.areDays -/
def lv99 : List (Nat × List Nat) := [(0, [0, 1]), (1, [4])]
def m99 : MC :=
  (.seq
 (.reg false [0, 1] [⟨(some 4), none, false, .mov (.k (.d (.bool false)))⟩])
 (.seq
 (.reg false [4] [⟨(some 5), none, false, .mov (.t 0)⟩,
 ⟨(some 6), none, true, .call 94 [(.t 5)]⟩,
 ⟨(some 7), none, false, .mov (.t 6)⟩,
 ⟨(some 8), (some (7, true)), false, .mov (.t 1)⟩,
 ⟨(some 9), (some (7, true)), true, .call 94 [(.t 8)]⟩,
 ⟨(some 10), none, false, .pick (.t 7) (.t 9) (.k (.d (.bool false)))⟩,
 ⟨(some 11), none, false, .mov (.t 10)⟩,
 ⟨(some 12), (some (11, true)), false, .mov (.t 0)⟩,
 ⟨(some 13), (some (11, true)), false, .mov (.t 1)⟩,
 ⟨(some 14), (some (11, true)), false, .bin .leq (.t 12) (.t 13)⟩,
 ⟨(some 15), none, false, .pick (.t 11) (.t 14) (.k (.d (.bool false)))⟩,
 ⟨(some 4), none, false, .mov (.t 15)⟩])
 .ret))
theorem c99 : (Go.Proofs.Try.f99).body.bind (comp prog.P (2, (Go.Proofs.Try.f99).ntmps) lv99) = some m99 := by kernel_rfl
theorem r99 : resOK prog.P (Go.Proofs.Try.f99).results.toList = true := by kernel_rfl

/-- spec.l1Most -/
def lv100 : List (Nat × List Nat) := [(0, [0, 1]), (1, [0, 1, 7]), (2, [4]), (3, [4])]
def m100 : MC :=
  (.seq
 (.reg false [0, 1] [⟨(some 4), none, false, .mov (.k (.d (.int .i64 0)))⟩])
 (.seq
 (.seq
 (.reg false [0, 1, 7] [⟨(some 5), none, false, .mov (.t 0)⟩,
 ⟨(some 6), none, false, .mov (.t 1)⟩,
 ⟨(some 7), none, false, .bin .gtr (.t 5) (.t 6)⟩])
 (.cond (.t 7)
 (.seq
 (.reg false [4] [⟨(some 8), none, false, .mov (.t 0)⟩,
 ⟨(some 4), none, false, .mov (.t 8)⟩])
 .ret)
 .skip))
 (.seq
 (.reg false [4] [⟨(some 9), none, false, .mov (.t 1)⟩,
 ⟨(some 4), none, false, .mov (.t 9)⟩])
 .ret)))
theorem c100 : (Go.Proofs.Try.f100).body.bind (comp prog.P (2, (Go.Proofs.Try.f100).ntmps) lv100) = some m100 := by kernel_rfl
theorem r100 : resOK prog.P (Go.Proofs.Try.f100).results.toList = true := by kernel_rfl

/-- impl.Appeal).isPending -/
def lv105 : List (Nat × List Nat) := [(0, [1]), (1, [2])]
def m105 : MC :=
  (.seq
 (.reg false [1] [⟨(some 1), none, true, .box (.t 0)⟩,
 ⟨(some 2), none, false, .mov (.k (.d (.bool false)))⟩])
 (.seq
 (.reg false [2] [⟨(some 3), none, false, .fa 5 5 (.t 1)⟩,
 ⟨(some 4), none, false, .ld none (.t 3)⟩,
 ⟨(some 5), none, false, .bin .eql (.t 4) (.k (.d (.int .i64 0)))⟩,
 ⟨(some 6), none, false, .mov (.t 5)⟩,
 ⟨(some 7), (some (6, false)), false, .fa 5 5 (.t 1)⟩,
 ⟨(some 8), (some (6, false)), false, .ld none (.t 7)⟩,
 ⟨(some 9), (some (6, false)), false, .bin .eql (.t 8) (.k (.d (.int .i64 1)))⟩,
 ⟨(some 10), none, false, .pick (.t 6) (.k (.d (.bool true))) (.t 9)⟩,
 ⟨(some 2), none, false, .mov (.t 10)⟩])
 .ret))
theorem c105 : (Go.Proofs.Try.f105).body.bind (comp prog.P (1, (Go.Proofs.Try.f105).ntmps) lv105) = some m105 := by kernel_rfl
theorem r105 : resOK prog.P (Go.Proofs.Try.f105).results.toList = true := by kernel_rfl

/-- slices.ContainsFunc[[]impl.Appeal,impl.Appeal] -/
def lv106 : List (Nat × List Nat) := [(0, [0, 1]), (1, [4])]
def m106 : MC :=
  (.seq
 (.reg false [0, 1] [⟨(some 4), none, false, .mov (.k (.d (.bool false)))⟩])
 (.seq
 (.reg false [4] [⟨(some 5), none, false, .mov (.t 0)⟩,
 ⟨(some 6), none, false, .mov (.t 1)⟩,
 ⟨(some 7), none, true, .call 119 [(.t 5), (.t 6)]⟩,
 ⟨(some 8), none, false, .bin .geq (.t 7) (.k (.d (.int .i64 0)))⟩,
 ⟨(some 4), none, false, .mov (.t 8)⟩])
 .ret))
theorem c106 : (Go.Proofs.Try.f106).body.bind (comp prog.P (2, (Go.Proofs.Try.f106).ntmps) lv106) = some m106 := by kernel_rfl
theorem r106 : resOK prog.P (Go.Proofs.Try.f106).results.toList = true := by kernel_rfl

/-- impl.AreAppeals$1 -/
def lv107 : List (Nat × List Nat) := [(0, [1, 2]), (1, [3])]
def m107 : MC :=
  (.seq
 (.reg false [1, 2] [⟨(some 2), none, true, .box (.t 0)⟩,
 ⟨(some 3), none, false, .mov (.k (.d (.bool false)))⟩])
 (.seq
 (.reg false [3] [⟨(some 4), none, false, .fa 1 1 (.t 2)⟩,
 ⟨(some 5), none, false, .ld none (.t 4)⟩,
 ⟨(some 6), none, false, .fa 1 1 (.t 1)⟩,
 ⟨(some 7), none, false, .ld none (.t 6)⟩,
 ⟨(some 8), none, false, .bin .eql (.t 5) (.t 7)⟩,
 ⟨(some 9), none, false, .mov (.t 8)⟩,
 ⟨(some 10), (some (9, true)), false, .ld (some 6) (.t 2)⟩,
 ⟨(some 11), (some (9, true)), true, .call 105 [(.t 10)]⟩,
 ⟨(some 12), none, false, .pick (.t 9) (.t 11) (.k (.d (.bool false)))⟩,
 ⟨(some 3), none, false, .mov (.t 12)⟩])
 .ret))
theorem c107 : (Go.Proofs.Try.f107).body.bind (comp prog.P (2, (Go.Proofs.Try.f107).ntmps) lv107) = some m107 := by kernel_rfl
theorem r107 : resOK prog.P (Go.Proofs.Try.f107).results.toList = true := by kernel_rfl
theorem en107 : enterOK prog.P 107 = true := by kernel_rfl

/-- impl.within -/
def lv111 : List (Nat × List Nat) := [(0, [0, 1, 2]), (1, [6])]
def m111 : MC :=
  (.seq
 (.reg false [0, 1, 2] [⟨(some 6), none, false, .mov (.k (.d (.bool false)))⟩])
 (.seq
 (.reg false [6] [⟨(some 7), none, false, .mov (.t 1)⟩,
 ⟨(some 8), none, false, .mov (.t 0)⟩,
 ⟨(some 9), none, false, .bin .leq (.t 7) (.t 8)⟩,
 ⟨(some 10), none, false, .mov (.t 9)⟩,
 ⟨(some 11), (some (10, true)), false, .mov (.t 0)⟩,
 ⟨(some 12), (some (10, true)), false, .mov (.t 2)⟩,
 ⟨(some 13), (some (10, true)), false, .bin .leq (.t 11) (.t 12)⟩,
 ⟨(some 14), none, false, .pick (.t 10) (.t 13) (.k (.d (.bool false)))⟩,
 ⟨(some 6), none, false, .mov (.t 14)⟩])
 .ret))
theorem c111 : (Go.Proofs.Try.f111).body.bind (comp prog.P (3, (Go.Proofs.Try.f111).ntmps) lv111) = some m111 := by kernel_rfl
theorem r111 : resOK prog.P (Go.Proofs.Try.f111).results.toList = true := by kernel_rfl

/-- impl.areRising -/
def lv112 : List (Nat × List Nat) := [(0, [0]), (1, [0, 3]), (2, [0, 3, 7]), (3, [0, 3]), (4, [0, 3, 19]), (5, [2]), (6, [2])]
def m112 : MC :=
  (.seq
 (.reg false [0] [⟨(some 2), none, false, .mov (.k (.d (.bool false)))⟩])
 (.seq
 (.seq
 (.reg false [0, 3] [⟨(some 3), none, false, .mov (.k (.d (.int .i64 1)))⟩])
 (.block 0
 (.loop
 (.seq
 (.seq
 (.reg false [0, 3, 7] [⟨(some 4), none, false, .mov (.t 3)⟩,
 ⟨(some 5), none, false, .mov (.t 0)⟩,
 ⟨(some 6), none, false, .len false (.t 5)⟩,
 ⟨(some 7), none, false, .bin .lss (.t 4) (.t 6)⟩])
 (.cond (.t 7)
 .skip
 (.exit 0)))
 (.seq
 (.block 1
 (.seq
 (.reg true [0, 3, 19] [⟨(some 10), none, false, .mov (.t 0)⟩,
 ⟨(some 11), none, false, .mov (.t 3)⟩,
 ⟨(some 12), none, false, .bin .sub (.t 11) (.k (.d (.int .i64 1)))⟩,
 ⟨(some 13), none, false, .ia 1 (.t 10) (.t 12)⟩,
 ⟨(some 14), none, false, .ld none (.t 13)⟩,
 ⟨(some 15), none, false, .mov (.t 0)⟩,
 ⟨(some 16), none, false, .mov (.t 3)⟩,
 ⟨(some 17), none, false, .ia 1 (.t 15) (.t 16)⟩,
 ⟨(some 18), none, false, .ld none (.t 17)⟩,
 ⟨(some 19), none, false, .bin .geq (.t 14) (.t 18)⟩])
 (.cond (.t 19)
 (.seq
 (.reg false [2] [⟨(some 2), none, false, .mov (.k (.d (.bool false)))⟩])
 .ret)
 .skip)))
 (.reg false [0, 3] [⟨(some 8), none, false, .mov (.t 3)⟩,
 ⟨(some 9), none, false, .bin .add (.t 8) (.k (.d (.int .i64 1)))⟩,
 ⟨(some 3), none, false, .mov (.t 9)⟩]))))))
 (.seq
 (.reg false [2] [⟨(some 2), none, false, .mov (.k (.d (.bool true)))⟩])
 .ret)))
theorem c112 : (Go.Proofs.Try.f112).body.bind (comp prog.P (1, (Go.Proofs.Try.f112).ntmps) lv112) = some m112 := by kernel_rfl
theorem r112 : resOK prog.P (Go.Proofs.Try.f112).results.toList = true := by kernel_rfl

/-- slices.ContainsFunc[[]int,int] -/
def lv113 : List (Nat × List Nat) := [(0, [0, 1]), (1, [4])]
def m113 : MC :=
  (.seq
 (.reg false [0, 1] [⟨(some 4), none, false, .mov (.k (.d (.bool false)))⟩])
 (.seq
 (.reg false [4] [⟨(some 5), none, false, .mov (.t 0)⟩,
 ⟨(some 6), none, false, .mov (.t 1)⟩,
 ⟨(some 7), none, true, .call 121 [(.t 5), (.t 6)]⟩,
 ⟨(some 8), none, false, .bin .geq (.t 7) (.k (.d (.int .i64 0)))⟩,
 ⟨(some 4), none, false, .mov (.t 8)⟩])
 .ret))
theorem c113 : (Go.Proofs.Try.f113).body.bind (comp prog.P (2, (Go.Proofs.Try.f113).ntmps) lv113) = some m113 := by kernel_rfl
theorem r113 : resOK prog.P (Go.Proofs.Try.f113).results.toList = true := by kernel_rfl

/-- impl.IsAppeal$1 -/
def lv114 : List (Nat × List Nat) := [(0, [0]), (1, [2])]
def m114 : MC :=
  (.seq
 (.reg false [0] [⟨(some 2), none, false, .mov (.k (.d (.bool false)))⟩])
 (.seq
 (.reg false [2] [⟨(some 3), none, false, .mov (.t 0)⟩,
 ⟨(some 4), none, true, .call 87 [(.t 3)]⟩,
 ⟨(some 5), none, false, .un .not (.t 4)⟩,
 ⟨(some 2), none, false, .mov (.t 5)⟩])
 .ret))
theorem c114 : (Go.Proofs.Try.f114).body.bind (comp prog.P (1, (Go.Proofs.Try.f114).ntmps) lv114) = some m114 := by kernel_rfl
theorem r114 : resOK prog.P (Go.Proofs.Try.f114).results.toList = true := by kernel_rfl
theorem en114 : enterOK prog.P 114 = true := by kernel_rfl

/-- impl.IsAppeal$2 -/
def lv115 : List (Nat × List Nat) := [(0, [0, 1]), (1, [3])]
def m115 : MC :=
  (.seq
 (.reg false [0, 1] [⟨(some 3), none, false, .mov (.k (.d (.bool false)))⟩])
 (.seq
 (.reg false [3] [⟨(some 4), none, false, .fa 3 3 (.t 1)⟩,
 ⟨(some 5), none, false, .ld none (.t 4)⟩,
 ⟨(some 6), none, false, .mov (.t 0)⟩,
 ⟨(some 7), none, true, .call 70 [(.t 5), (.t 6)]⟩,
 ⟨(some 8), none, false, .un .not (.t 7)⟩,
 ⟨(some 3), none, false, .mov (.t 8)⟩])
 .ret))
theorem c115 : (Go.Proofs.Try.f115).body.bind (comp prog.P (2, (Go.Proofs.Try.f115).ntmps) lv115) = some m115 := by kernel_rfl
theorem r115 : resOK prog.P (Go.Proofs.Try.f115).results.toList = true := by kernel_rfl
theorem en115 : enterOK prog.P 115 = true := by kernel_rfl

/-- spec.l24One -/
def lv116 : List (Nat × List Nat) := [(0, [1]), (1, [1, 43]), (2, [2]), (3, [1, 3]), (4, [1, 3, 48]), (5, [1, 3]), (6, [1, 3, 59]), (7, [2]), (8, [2])]
def m116 : MC :=
  (.seq
 (.reg false [1] [⟨(some 1), none, true, .box (.t 0)⟩,
 ⟨(some 2), none, false, .mov (.k (.d (.bool false)))⟩])
 (.seq
 (.seq
 (.reg false [1, 43] [⟨(some 4), none, false, .fa 0 0 (.t 1)⟩,
 ⟨(some 5), none, false, .ld none (.t 4)⟩,
 ⟨(some 6), none, true, .call 131 [(.t 5), (.k (.d (.int .i64 1))), (.k (.d (.int .i64 999)))]⟩,
 ⟨(some 7), none, false, .un .not (.t 6)⟩,
 ⟨(some 8), none, false, .mov (.t 7)⟩,
 ⟨(some 9), (some (8, false)), false, .fa 1 1 (.t 1)⟩,
 ⟨(some 10), (some (8, false)), false, .ld none (.t 9)⟩,
 ⟨(some 11), (some (8, false)), true, .call 131 [(.t 10), (.k (.d (.int .i64 1))), (.k (.d (.int .i64 999)))]⟩,
 ⟨(some 12), (some (8, false)), false, .un .not (.t 11)⟩,
 ⟨(some 13), none, false, .pick (.t 8) (.k (.d (.bool true))) (.t 12)⟩,
 ⟨(some 14), none, false, .mov (.t 13)⟩,
 ⟨(some 15), (some (14, false)), false, .fa 2 2 (.t 1)⟩,
 ⟨(some 16), (some (14, false)), false, .ld none (.t 15)⟩,
 ⟨(some 17), (some (14, false)), true, .call 96 [(.t 16)]⟩,
 ⟨(some 18), (some (14, false)), false, .un .not (.t 17)⟩,
 ⟨(some 19), none, false, .pick (.t 14) (.k (.d (.bool true))) (.t 18)⟩,
 ⟨(some 20), none, false, .mov (.t 19)⟩,
 ⟨(some 21), (some (20, false)), false, .fa 3 3 (.t 1)⟩,
 ⟨(some 22), (some (20, false)), false, .ld none (.t 21)⟩,
 ⟨(some 23), (some (20, false)), false, .len false (.t 22)⟩,
 ⟨(some 24), (some (20, false)), false, .bin .gtr (.t 23) (.k (.d (.int .i64 6)))⟩,
 ⟨(some 25), none, false, .pick (.t 20) (.k (.d (.bool true))) (.t 24)⟩,
 ⟨(some 26), none, false, .mov (.t 25)⟩,
 ⟨(some 27), (some (26, false)), false, .fa 3 3 (.t 1)⟩,
 ⟨(some 28), (some (26, false)), false, .ld none (.t 27)⟩,
 ⟨(some 29), (some (26, false)), true, .call 135 [(.t 28), (.k (.d (.int .i64 1))), (.k (.d (.int .i64 50)))]⟩,
 ⟨(some 30), (some (26, false)), false, .un .not (.t 29)⟩,
 ⟨(some 31), none, false, .pick (.t 26) (.k (.d (.bool true))) (.t 30)⟩,
 ⟨(some 32), none, false, .mov (.t 31)⟩,
 ⟨(some 33), (some (32, false)), false, .fa 4 4 (.t 1)⟩,
 ⟨(some 34), (some (32, false)), false, .ld none (.t 33)⟩,
 ⟨(some 35), (some (32, false)), true, .call 135 [(.t 34), (.k (.d (.int .i64 1))), (.k (.d (.int .i64 50)))]⟩,
 ⟨(some 36), (some (32, false)), false, .un .not (.t 35)⟩,
 ⟨(some 37), none, false, .pick (.t 32) (.k (.d (.bool true))) (.t 36)⟩,
 ⟨(some 38), none, false, .mov (.t 37)⟩,
 ⟨(some 39), (some (38, false)), false, .fa 5 5 (.t 1)⟩,
 ⟨(some 40), (some (38, false)), false, .ld none (.t 39)⟩,
 ⟨(some 41), (some (38, false)), true, .call 131 [(.t 40), (.k (.d (.int .i64 0))), (.k (.d (.int .i64 4)))]⟩,
 ⟨(some 42), (some (38, false)), false, .un .not (.t 41)⟩,
 ⟨(some 43), none, false, .pick (.t 38) (.k (.d (.bool true))) (.t 42)⟩])
 (.cond (.t 43)
 (.seq
 (.reg false [2] [⟨(some 2), none, false, .mov (.k (.d (.bool false)))⟩])
 .ret)
 .skip))
 (.seq
 (.seq
 (.reg false [1, 3] [⟨(some 3), none, false, .mov (.k (.d (.int .i64 0)))⟩])
 (.block 0
 (.loop
 (.seq
 (.seq
 (.reg false [1, 3, 48] [⟨(some 44), none, false, .mov (.t 3)⟩,
 ⟨(some 45), none, false, .fa 4 4 (.t 1)⟩,
 ⟨(some 46), none, false, .ld none (.t 45)⟩,
 ⟨(some 47), none, false, .len false (.t 46)⟩,
 ⟨(some 48), none, false, .bin .lss (.t 44) (.t 47)⟩])
 (.cond (.t 48)
 .skip
 (.exit 0)))
 (.seq
 (.block 1
 (.seq
 (.reg true [1, 3, 59] [⟨(some 51), none, false, .fa 3 3 (.t 1)⟩,
 ⟨(some 52), none, false, .ld none (.t 51)⟩,
 ⟨(some 53), none, false, .fa 4 4 (.t 1)⟩,
 ⟨(some 54), none, false, .ld none (.t 53)⟩,
 ⟨(some 55), none, false, .mov (.t 3)⟩,
 ⟨(some 56), none, false, .ia 1 (.t 54) (.t 55)⟩,
 ⟨(some 57), none, false, .ld none (.t 56)⟩,
 ⟨(some 58), none, false, .callP 64 [(.t 52), (.t 57)]⟩,
 ⟨(some 59), none, false, .un .not (.t 58)⟩])
 (.cond (.t 59)
 (.seq
 (.reg false [2] [⟨(some 2), none, false, .mov (.k (.d (.bool false)))⟩])
 .ret)
 .skip)))
 (.reg false [1, 3] [⟨(some 49), none, false, .mov (.t 3)⟩,
 ⟨(some 50), none, false, .bin .add (.t 49) (.k (.d (.int .i64 1)))⟩,
 ⟨(some 3), none, false, .mov (.t 50)⟩]))))))
 (.seq
 (.reg false [2] [⟨(some 60), none, false, .fa 5 5 (.t 1)⟩,
 ⟨(some 61), none, false, .ld none (.t 60)⟩,
 ⟨(some 62), none, false, .bin .eql (.t 61) (.k (.d (.int .i64 0)))⟩,
 ⟨(some 63), none, false, .mov (.t 62)⟩,
 ⟨(some 64), (some (63, false)), false, .fa 5 5 (.t 1)⟩,
 ⟨(some 65), (some (63, false)), false, .ld none (.t 64)⟩,
 ⟨(some 66), (some (63, false)), false, .bin .eql (.t 65) (.k (.d (.int .i64 4)))⟩,
 ⟨(some 67), none, false, .pick (.t 63) (.k (.d (.bool true))) (.t 66)⟩,
 ⟨(some 68), none, false, .fa 4 4 (.t 1)⟩,
 ⟨(some 69), none, false, .ld none (.t 68)⟩,
 ⟨(some 70), none, false, .len false (.t 69)⟩,
 ⟨(some 71), none, false, .fa 3 3 (.t 1)⟩,
 ⟨(some 72), none, false, .ld none (.t 71)⟩,
 ⟨(some 73), none, false, .len false (.t 72)⟩,
 ⟨(some 74), none, false, .bin .lss (.t 70) (.t 73)⟩,
 ⟨(some 75), none, false, .bb .eql (.t 67) (.t 74)⟩,
 ⟨(some 2), none, false, .mov (.t 75)⟩])
 .ret))))
theorem c116 : (Go.Proofs.Try.f116).body.bind (comp prog.P (1, (Go.Proofs.Try.f116).ntmps) lv116) = some m116 := by kernel_rfl
theorem r116 : resOK prog.P (Go.Proofs.Try.f116).results.toList = true := by kernel_rfl

/-- laws.szIntS -/
def lv117 : List (Nat × List Nat) := [(0, [0, 1]), (1, [1]), (2, [1, 10]), (3, [4]), (4, [4])]
def m117 : MC :=
  (.seq
 (.reg false [0, 1] [⟨(some 4), none, false, .mov (.k (.d (.int .i64 0)))⟩])
 (.seq
 (.reg false [1] [⟨(some 5), none, false, .mov (.t 1)⟩,
 ⟨(some 6), none, false, .mov (.t 0)⟩,
 ⟨(some 7), none, false, .len false (.t 6)⟩,
 ⟨(some 8), none, false, .bin .sub (.t 5) (.t 7)⟩,
 ⟨(some 1), none, false, .mov (.t 8)⟩])
 (.seq
 (.seq
 (.reg false [1, 10] [⟨(some 9), none, false, .mov (.t 1)⟩,
 ⟨(some 10), none, false, .bin .lss (.t 9) (.k (.d (.int .i64 0)))⟩])
 (.cond (.t 10)
 (.seq
 (.reg false [4] [⟨(some 4), none, false, .mov (.k (.d (.int .i64 (-1))))⟩])
 .ret)
 .skip))
 (.seq
 (.reg false [4] [⟨(some 11), none, false, .mov (.t 1)⟩,
 ⟨(some 4), none, false, .mov (.t 11)⟩])
 .ret))))
theorem c117 : (Go.Proofs.Try.f117).body.bind (comp prog.P (1, (Go.Proofs.Try.f117).ntmps) lv117) = some m117 := by kernel_rfl
theorem r117 : resOK prog.P (Go.Proofs.Try.f117).results.toList = true := by kernel_rfl

/-- laws.toIntS -/
def lv118 : List (Nat × List Nat) := [(0, [0]), (1, [0, 3]), (2, [0, 3, 4]), (3, [0, 3, 4, 11]), (4, [0, 3, 4]), (5, [0, 3, 4]), (6, [2])]
def m118 : MC :=
  (.seq
 (.reg false [0] [⟨(some 2), none, false, .mov (.k .nil)⟩])
 (.seq
 (.reg false [0, 3] [⟨(some 5), none, false, .mov (.t 0)⟩,
 ⟨(some 6), none, false, .len false (.t 5)⟩,
 ⟨(some 7), none, true, .mk 1 8 (.int .i64 0) (.t 6)⟩,
 ⟨(some 3), none, false, .mov (.t 7)⟩])
 (.seq
 (.seq
 (.reg false [0, 3, 4] [⟨(some 4), none, false, .mov (.k (.d (.int .i64 0)))⟩])
 (.block 0
 (.loop
 (.seq
 (.seq
 (.reg false [0, 3, 4, 11] [⟨(some 8), none, false, .mov (.t 4)⟩,
 ⟨(some 9), none, false, .mov (.t 0)⟩,
 ⟨(some 10), none, false, .len false (.t 9)⟩,
 ⟨(some 11), none, false, .bin .lss (.t 8) (.t 10)⟩])
 (.cond (.t 11)
 .skip
 (.exit 0)))
 (.seq
 (.block 1
 (.reg false [0, 3, 4] [⟨(some 14), none, false, .mov (.t 3)⟩,
 ⟨(some 15), none, false, .mov (.t 4)⟩,
 ⟨(some 16), none, false, .mov (.t 0)⟩,
 ⟨(some 17), none, false, .mov (.t 4)⟩,
 ⟨(some 18), none, false, .ia 1 (.t 16) (.t 17)⟩,
 ⟨(some 19), none, false, .ld none (.t 18)⟩,
 ⟨(some 20), none, false, .ia 1 (.t 14) (.t 15)⟩,
 ⟨none, none, true, .st 1 (.t 20) (.t 19)⟩]))
 (.reg false [0, 3, 4] [⟨(some 12), none, false, .mov (.t 4)⟩,
 ⟨(some 13), none, false, .bin .add (.t 12) (.k (.d (.int .i64 1)))⟩,
 ⟨(some 4), none, false, .mov (.t 13)⟩]))))))
 (.seq
 (.reg false [2] [⟨(some 21), none, false, .mov (.t 3)⟩,
 ⟨(some 2), none, false, .mov (.t 21)⟩])
 .ret))))
theorem c118 : (Go.Proofs.Try.f118).body.bind (comp prog.P (1, (Go.Proofs.Try.f118).ntmps) lv118) = some m118 := by kernel_rfl
theorem r118 : resOK prog.P (Go.Proofs.Try.f118).results.toList = true := by kernel_rfl

/-- slices.IndexFunc[[]impl.Appeal,impl.Appeal] -/
def lv119 : List (Nat × List Nat) := [(0, [0, 1]), (1, [0, 1, 7, 8]), (2, [0, 1, 7, 8, 9]), (3, [0, 1, 5, 7, 8]), (4, [0, 1, 5, 7, 8, 16]), (5, [4]), (6, [0, 1, 7, 8]), (7, [4])]
def m119 : MC :=
  (.seq
 (.reg false [0, 1] [⟨(some 4), none, false, .mov (.k (.d (.int .i64 0)))⟩])
 (.seq
 (.seq
 (.reg false [0, 1, 7, 8] [⟨(some 6), none, false, .mov (.t 0)⟩,
 ⟨(some 7), none, false, .len false (.t 6)⟩,
 ⟨(some 8), none, false, .mov (.k (.d (.int .i64 0)))⟩])
 (.block 0
 (.loop
 (.seq
 (.reg false [0, 1, 7, 8, 9] [⟨(some 9), none, false, .bin .lss (.t 8) (.t 7)⟩])
 (.seq
 (.cond (.t 9)
 .skip
 (.exit 0))
 (.seq
 (.block 1
 (.seq
 (.reg false [0, 1, 5, 7, 8] [⟨(some 10), none, false, .mov (.t 8)⟩,
 ⟨(some 5), none, false, .mov (.t 10)⟩])
 (.seq
 (.reg false [0, 1, 5, 7, 8, 16] [⟨(some 11), none, false, .mov (.t 1)⟩,
 ⟨(some 12), none, false, .mov (.t 0)⟩,
 ⟨(some 13), none, false, .mov (.t 5)⟩,
 ⟨(some 14), none, false, .ia 6 (.t 12) (.t 13)⟩,
 ⟨(some 15), none, false, .ld (some 6) (.t 14)⟩,
 ⟨(some 16), none, true, .callW (.t 11) [(.t 15)]⟩])
 (.cond (.t 16)
 (.seq
 (.reg false [4] [⟨(some 17), none, false, .mov (.t 5)⟩,
 ⟨(some 4), none, false, .mov (.t 17)⟩])
 .ret)
 .skip))))
 (.reg false [0, 1, 7, 8] [⟨(some 18), none, false, .bin .add (.t 8) (.k (.d (.int .i64 1)))⟩,
 ⟨(some 8), none, false, .mov (.t 18)⟩])))))))
 (.seq
 (.reg false [4] [⟨(some 4), none, false, .mov (.k (.d (.int .i64 (-1))))⟩])
 .ret)))
theorem c119 : (Go.Proofs.Try.f119).body.bind (comp prog.P (2, (Go.Proofs.Try.f119).ntmps) lv119) = some m119 := by kernel_rfl
theorem r119 : resOK prog.P (Go.Proofs.Try.f119).results.toList = true := by kernel_rfl

/-- impl.appealAt$1 -/
def lv120 : List (Nat × List Nat) := [(0, [1, 2]), (1, [3])]
def m120 : MC :=
  (.seq
 (.reg false [1, 2] [⟨(some 2), none, true, .box (.t 0)⟩,
 ⟨(some 3), none, false, .mov (.k (.d (.bool false)))⟩])
 (.seq
 (.reg false [3] [⟨(some 4), none, false, .fa 0 0 (.t 2)⟩,
 ⟨(some 5), none, false, .ld none (.t 4)⟩,
 ⟨(some 6), none, false, .ld none (.t 1)⟩,
 ⟨(some 7), none, false, .bin .eql (.t 5) (.t 6)⟩,
 ⟨(some 3), none, false, .mov (.t 7)⟩])
 .ret))
theorem c120 : (Go.Proofs.Try.f120).body.bind (comp prog.P (2, (Go.Proofs.Try.f120).ntmps) lv120) = some m120 := by kernel_rfl
theorem r120 : resOK prog.P (Go.Proofs.Try.f120).results.toList = true := by kernel_rfl
theorem en120 : enterOK prog.P 120 = true := by kernel_rfl

/-- slices.IndexFunc[[]int,int] -/
def lv121 : List (Nat × List Nat) := [(0, [0, 1]), (1, [0, 1, 7, 8]), (2, [0, 1, 7, 8, 9]), (3, [0, 1, 5, 7, 8]), (4, [0, 1, 5, 7, 8, 16]), (5, [4]), (6, [0, 1, 7, 8]), (7, [4])]
def m121 : MC :=
  (.seq
 (.reg false [0, 1] [⟨(some 4), none, false, .mov (.k (.d (.int .i64 0)))⟩])
 (.seq
 (.seq
 (.reg false [0, 1, 7, 8] [⟨(some 6), none, false, .mov (.t 0)⟩,
 ⟨(some 7), none, false, .len false (.t 6)⟩,
 ⟨(some 8), none, false, .mov (.k (.d (.int .i64 0)))⟩])
 (.block 0
 (.loop
 (.seq
 (.reg false [0, 1, 7, 8, 9] [⟨(some 9), none, false, .bin .lss (.t 8) (.t 7)⟩])
 (.seq
 (.cond (.t 9)
 .skip
 (.exit 0))
 (.seq
 (.block 1
 (.seq
 (.reg false [0, 1, 5, 7, 8] [⟨(some 10), none, false, .mov (.t 8)⟩,
 ⟨(some 5), none, false, .mov (.t 10)⟩])
 (.seq
 (.reg false [0, 1, 5, 7, 8, 16] [⟨(some 11), none, false, .mov (.t 1)⟩,
 ⟨(some 12), none, false, .mov (.t 0)⟩,
 ⟨(some 13), none, false, .mov (.t 5)⟩,
 ⟨(some 14), none, false, .ia 1 (.t 12) (.t 13)⟩,
 ⟨(some 15), none, false, .ld none (.t 14)⟩,
 ⟨(some 16), none, true, .callW (.t 11) [(.t 15)]⟩])
 (.cond (.t 16)
 (.seq
 (.reg false [4] [⟨(some 17), none, false, .mov (.t 5)⟩,
 ⟨(some 4), none, false, .mov (.t 17)⟩])
 .ret)
 .skip))))
 (.reg false [0, 1, 7, 8] [⟨(some 18), none, false, .bin .add (.t 8) (.k (.d (.int .i64 1)))⟩,
 ⟨(some 8), none, false, .mov (.t 18)⟩])))))))
 (.seq
 (.reg false [4] [⟨(some 4), none, false, .mov (.k (.d (.int .i64 (-1))))⟩])
 .ret)))
theorem c121 : (Go.Proofs.Try.f121).body.bind (comp prog.P (2, (Go.Proofs.Try.f121).ntmps) lv121) = some m121 := by kernel_rfl
theorem r121 : resOK prog.P (Go.Proofs.Try.f121).results.toList = true := by kernel_rfl

/-- impl.gcd -/
def lv127 : List (Nat × List Nat) := [(0, [0, 1]), (1, [0, 1]), (2, [0, 1, 10]), (3, [0, 1]), (4, [4])]
def m127 : MC :=
  (.seq
 (.reg false [0, 1] [⟨(some 4), none, false, .mov (.k (.d (.int .i64 0)))⟩])
 (.seq
 (.reg false [0, 1] [⟨(some 5), none, false, .mov (.t 0)⟩,
 ⟨(some 6), none, true, .call 137 [(.t 5)]⟩,
 ⟨(some 7), none, false, .mov (.t 1)⟩,
 ⟨(some 8), none, true, .call 137 [(.t 7)]⟩,
 ⟨(some 0), none, false, .mov (.t 6)⟩,
 ⟨(some 1), none, false, .mov (.t 8)⟩])
 (.seq
 (.block 0
 (.loop
 (.seq
 (.seq
 (.reg false [0, 1, 10] [⟨(some 9), none, false, .mov (.t 1)⟩,
 ⟨(some 10), none, false, .bin .neq (.t 9) (.k (.d (.int .i64 0)))⟩])
 (.cond (.t 10)
 .skip
 (.exit 0)))
 (.block 1
 (.reg true [0, 1] [⟨(some 11), none, false, .mov (.t 1)⟩,
 ⟨(some 12), none, false, .mov (.t 0)⟩,
 ⟨(some 13), none, false, .mov (.t 1)⟩,
 ⟨(some 14), none, false, .bin .rem (.t 12) (.t 13)⟩,
 ⟨(some 0), none, false, .mov (.t 11)⟩,
 ⟨(some 1), none, false, .mov (.t 14)⟩])))))
 (.seq
 (.reg false [4] [⟨(some 15), none, false, .mov (.t 0)⟩,
 ⟨(some 4), none, false, .mov (.t 15)⟩])
 .ret))))
theorem c127 : (Go.Proofs.Try.f127).body.bind (comp prog.P (0, (Go.Proofs.Try.f127).ntmps) lv127) = some m127 := by kernel_rfl
theorem r127 : resOK prog.P (Go.Proofs.Try.f127).results.toList = true := by kernel_rfl

/-- spec.l1In -/
def lv131 : List (Nat × List Nat) := [(0, [0, 1, 2]), (1, [6])]
def m131 : MC :=
  (.seq
 (.reg false [0, 1, 2] [⟨(some 6), none, false, .mov (.k (.d (.bool false)))⟩])
 (.seq
 (.reg false [6] [⟨(some 7), none, false, .mov (.t 0)⟩,
 ⟨(some 8), none, false, .mov (.t 1)⟩,
 ⟨(some 9), none, false, .bin .geq (.t 7) (.t 8)⟩,
 ⟨(some 10), none, false, .mov (.t 9)⟩,
 ⟨(some 11), (some (10, true)), false, .mov (.t 0)⟩,
 ⟨(some 12), (some (10, true)), false, .mov (.t 2)⟩,
 ⟨(some 13), (some (10, true)), false, .bin .leq (.t 11) (.t 12)⟩,
 ⟨(some 14), none, false, .pick (.t 10) (.t 13) (.k (.d (.bool false)))⟩,
 ⟨(some 6), none, false, .mov (.t 14)⟩])
 .ret))
theorem c131 : (Go.Proofs.Try.f131).body.bind (comp prog.P (3, (Go.Proofs.Try.f131).ntmps) lv131) = some m131 := by kernel_rfl
theorem r131 : resOK prog.P (Go.Proofs.Try.f131).results.toList = true := by kernel_rfl

/-- slices.Clone[[]impl.Appeal,impl.Appeal] -/
def lv132 : List (Nat × List Nat) := [(0, [0]), (1, [0, 4]), (2, [2]), (3, [2])]
def m132 : MC :=
  (.seq
 (.reg false [0] [⟨(some 2), none, false, .mov (.k .nil)⟩])
 (.seq
 (.seq
 (.reg false [0, 4] [⟨(some 3), none, false, .mov (.t 0)⟩,
 ⟨(some 4), none, true, .snil false (.t 3)⟩])
 (.cond (.t 4)
 (.seq
 (.reg false [2] [⟨(some 2), none, false, .mov (.k .nil)⟩])
 .ret)
 .skip))
 (.seq
 (.reg false [2] [⟨(some 5), none, true, .bs 6 0 (.st (.cons (.int .i64 0) (.cons (.int .i64 0) (.cons (.int .i64 0) (.cons (.sl true 1 .nil) (.cons (.sl true 1 .nil) (.cons (.int .i64 0) .nil))))))) []⟩,
 ⟨(some 6), none, false, .mov (.t 0)⟩,
 ⟨(some 7), none, true, .app 6 80 (.t 5) (.t 6)⟩,
 ⟨(some 2), none, false, .mov (.t 7)⟩])
 .ret)))
theorem c132 : (Go.Proofs.Try.f132).body.bind (comp prog.P (1, (Go.Proofs.Try.f132).ntmps) lv132) = some m132 := by kernel_rfl
theorem r132 : resOK prog.P (Go.Proofs.Try.f132).results.toList = true := by kernel_rfl

/-- spec.l1Rising -/
def lv135 : List (Nat × List Nat) := [(0, [0, 1, 2]), (1, [0, 1, 2, 7]), (2, [0, 1, 2, 7, 11]), (3, [0, 1, 2, 7]), (4, [0, 1, 2, 7, 37]), (5, [6]), (6, [6])]
def m135 : MC :=
  (.seq
 (.reg false [0, 1, 2] [⟨(some 6), none, false, .mov (.k (.d (.bool false)))⟩])
 (.seq
 (.seq
 (.reg false [0, 1, 2, 7] [⟨(some 7), none, false, .mov (.k (.d (.int .i64 0)))⟩])
 (.block 0
 (.loop
 (.seq
 (.seq
 (.reg false [0, 1, 2, 7, 11] [⟨(some 8), none, false, .mov (.t 7)⟩,
 ⟨(some 9), none, false, .mov (.t 0)⟩,
 ⟨(some 10), none, false, .len false (.t 9)⟩,
 ⟨(some 11), none, false, .bin .lss (.t 8) (.t 10)⟩])
 (.cond (.t 11)
 .skip
 (.exit 0)))
 (.seq
 (.block 1
 (.seq
 (.reg true [0, 1, 2, 7, 37] [⟨(some 14), none, false, .mov (.t 0)⟩,
 ⟨(some 15), none, false, .mov (.t 7)⟩,
 ⟨(some 16), none, false, .ia 1 (.t 14) (.t 15)⟩,
 ⟨(some 17), none, false, .ld none (.t 16)⟩,
 ⟨(some 18), none, false, .mov (.t 1)⟩,
 ⟨(some 19), none, false, .mov (.t 2)⟩,
 ⟨(some 20), none, false, .callP 131 [(.t 17), (.t 18), (.t 19)]⟩,
 ⟨(some 21), none, false, .un .not (.t 20)⟩,
 ⟨(some 22), none, false, .mov (.t 21)⟩,
 ⟨(some 23), (some (22, false)), false, .mov (.t 7)⟩,
 ⟨(some 24), (some (22, false)), false, .bin .gtr (.t 23) (.k (.d (.int .i64 0)))⟩,
 ⟨(some 25), (some (22, false)), false, .mov (.t 24)⟩,
 ⟨(some 26), (some (25, true)), false, .mov (.t 0)⟩,
 ⟨(some 27), (some (25, true)), false, .mov (.t 7)⟩,
 ⟨(some 28), (some (25, true)), false, .bin .sub (.t 27) (.k (.d (.int .i64 1)))⟩,
 ⟨(some 29), (some (25, true)), false, .ia 1 (.t 26) (.t 28)⟩,
 ⟨(some 30), (some (25, true)), false, .ld none (.t 29)⟩,
 ⟨(some 31), (some (25, true)), false, .mov (.t 0)⟩,
 ⟨(some 32), (some (25, true)), false, .mov (.t 7)⟩,
 ⟨(some 33), (some (25, true)), false, .ia 1 (.t 31) (.t 32)⟩,
 ⟨(some 34), (some (25, true)), false, .ld none (.t 33)⟩,
 ⟨(some 35), (some (25, true)), false, .bin .geq (.t 30) (.t 34)⟩,
 ⟨(some 36), (some (22, false)), false, .pick (.t 25) (.t 35) (.k (.d (.bool false)))⟩,
 ⟨(some 37), none, false, .pick (.t 22) (.k (.d (.bool true))) (.t 36)⟩])
 (.cond (.t 37)
 (.seq
 (.reg false [6] [⟨(some 6), none, false, .mov (.k (.d (.bool false)))⟩])
 .ret)
 .skip)))
 (.reg false [0, 1, 2, 7] [⟨(some 12), none, false, .mov (.t 7)⟩,
 ⟨(some 13), none, false, .bin .add (.t 12) (.k (.d (.int .i64 1)))⟩,
 ⟨(some 7), none, false, .mov (.t 13)⟩]))))))
 (.seq
 (.reg false [6] [⟨(some 6), none, false, .mov (.k (.d (.bool true)))⟩])
 .ret)))
theorem c135 : (Go.Proofs.Try.f135).body.bind (comp prog.P (3, (Go.Proofs.Try.f135).ntmps) lv135) = some m135 := by kernel_rfl
theorem r135 : resOK prog.P (Go.Proofs.Try.f135).results.toList = true := by kernel_rfl

/-- impl.abs -/
def lv137 : List (Nat × List Nat) := [(0, [0]), (1, [0, 4]), (2, [2]), (3, [2])]
def m137 : MC :=
  (.seq
 (.reg false [0] [⟨(some 2), none, false, .mov (.k (.d (.int .i64 0)))⟩])
 (.seq
 (.seq
 (.reg false [0, 4] [⟨(some 3), none, false, .mov (.t 0)⟩,
 ⟨(some 4), none, false, .bin .lss (.t 3) (.k (.d (.int .i64 0)))⟩])
 (.cond (.t 4)
 (.seq
 (.reg false [2] [⟨(some 5), none, false, .mov (.t 0)⟩,
 ⟨(some 6), none, false, .un .neg (.t 5)⟩,
 ⟨(some 2), none, false, .mov (.t 6)⟩])
 .ret)
 .skip))
 (.seq
 (.reg false [2] [⟨(some 7), none, false, .mov (.t 0)⟩,
 ⟨(some 2), none, false, .mov (.t 7)⟩])
 .ret)))
theorem c137 : (Go.Proofs.Try.f137).body.bind (comp prog.P (1, (Go.Proofs.Try.f137).ntmps) lv137) = some m137 := by kernel_rfl
theorem r137 : resOK prog.P (Go.Proofs.Try.f137).results.toList = true := by kernel_rfl

end Go.Pe.Try
