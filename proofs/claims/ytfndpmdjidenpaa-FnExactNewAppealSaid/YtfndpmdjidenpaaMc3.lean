/-
The compact code of the functions that the law reaches, printed by gen.py, each with the proof that the machine's code is compiled to it.
-/
import Derived.Test.YtfndpmdjidenpaaMc1
import Derived.Test.YtfndpmdjidenpaaProg
import Derived.KernelRfl
set_option maxRecDepth 100000
namespace Go.Pe.Try
open Go.Pe

/-- slices.ContainsFunc[[]int,int] -/
def lv91 : List (Nat × List Nat) := [(0, [0, 1]), (1, [4])]
def m91 : MC :=
  (.seq
 (.reg false [0, 1] [⟨(some 4), none, false, .mov (.k (.d (.bool false)))⟩])
 (.seq
 (.reg false [4] [⟨(some 5), none, false, .mov (.t 0)⟩,
 ⟨(some 6), none, false, .mov (.t 1)⟩,
 ⟨(some 7), none, true, .call 99 [(.t 5), (.t 6)]⟩,
 ⟨(some 8), none, false, .bin .geq (.t 7) (.k (.d (.int .i64 0)))⟩,
 ⟨(some 4), none, false, .mov (.t 8)⟩])
 .ret))
theorem c91 : (Go.Proofs.Try.f91).body.bind (comp prog.P (2, (Go.Proofs.Try.f91).ntmps) lv91) = some m91 := by kernel_rfl
theorem r91 : resOK prog.P (Go.Proofs.Try.f91).results.toList = true := by kernel_rfl

/-- impl.IsAppeal$1 -/
def lv92 : List (Nat × List Nat) := [(0, [0]), (1, [2])]
def m92 : MC :=
  (.seq
 (.reg false [0] [⟨(some 2), none, false, .mov (.k (.d (.bool false)))⟩])
 (.seq
 (.reg false [2] [⟨(some 3), none, false, .mov (.t 0)⟩,
 ⟨(some 4), none, true, .call 93 [(.t 3)]⟩,
 ⟨(some 5), none, false, .un .not (.t 4)⟩,
 ⟨(some 2), none, false, .mov (.t 5)⟩])
 .ret))
theorem c92 : (Go.Proofs.Try.f92).body.bind (comp prog.P (1, (Go.Proofs.Try.f92).ntmps) lv92) = some m92 := by kernel_rfl
theorem r92 : resOK prog.P (Go.Proofs.Try.f92).results.toList = true := by kernel_rfl
theorem en92 : enterOK prog.P 92 = true := by kernel_rfl

/-- impl.isParty -/
def lv93 : List (Nat × List Nat) := [(0, [0]), (1, [2])]
def m93 : MC :=
  (.seq
 (.reg false [0] [⟨(some 2), none, false, .mov (.k (.d (.bool false)))⟩])
 (.seq
 (.reg false [2] [⟨(some 3), none, false, .mov (.t 0)⟩,
 ⟨(some 4), none, true, .call 89 [(.t 3), (.k (.d (.int .i64 1))), (.k (.d (.int .i64 50)))]⟩,
 ⟨(some 2), none, false, .mov (.t 4)⟩])
 .ret))
theorem c93 : (Go.Proofs.Try.f93).body.bind (comp prog.P (1, (Go.Proofs.Try.f93).ntmps) lv93) = some m93 := by kernel_rfl
theorem r93 : resOK prog.P (Go.Proofs.Try.f93).results.toList = true := by kernel_rfl

/-- impl.IsAppeal$2 -/
def lv94 : List (Nat × List Nat) := [(0, [0, 1]), (1, [3])]
def m94 : MC :=
  (.seq
 (.reg false [0, 1] [⟨(some 3), none, false, .mov (.k (.d (.bool false)))⟩])
 (.seq
 (.reg false [3] [⟨(some 4), none, false, .fa 3 3 (.t 1)⟩,
 ⟨(some 5), none, false, .ld none (.t 4)⟩,
 ⟨(some 6), none, false, .mov (.t 0)⟩,
 ⟨(some 7), none, true, .call 67 [(.t 5), (.t 6)]⟩,
 ⟨(some 8), none, false, .un .not (.t 7)⟩,
 ⟨(some 3), none, false, .mov (.t 8)⟩])
 .ret))
theorem c94 : (Go.Proofs.Try.f94).body.bind (comp prog.P (2, (Go.Proofs.Try.f94).ntmps) lv94) = some m94 := by kernel_rfl
theorem r94 : resOK prog.P (Go.Proofs.Try.f94).results.toList = true := by kernel_rfl
theorem en94 : enterOK prog.P 94 = true := by kernel_rfl

/-- slices.IndexFunc[[]impl.Appeal,impl.Appeal] -/
def lv95 : List (Nat × List Nat) := [(0, [0, 1]), (1, [0, 1, 7, 8]), (2, [0, 1, 7, 8, 9]), (3, [0, 1, 5, 7, 8]), (4, [0, 1, 5, 7, 8, 16]), (5, [4]), (6, [0, 1, 7, 8]), (7, [4])]
def m95 : MC :=
  (.seq
 (.reg false [0, 1] [⟨(some 4), none, false, .mov (.k (.d (.int .i64 0)))⟩])
 (.seq
 (.seq
 (.reg false [0, 1, 7, 8] [⟨(some 6), none, false, .mov (.t 0)⟩,
 ⟨(some 7), none, false, .len false (.t 6)⟩,
 ⟨(some 8), none, false, .mov (.k (.d (.int .i64 0)))⟩])
 (.block 0
 (.loop
 (.seq
 (.reg false [0, 1, 7, 8, 9] [⟨(some 9), none, false, .bin .lss (.t 8) (.t 7)⟩])
 (.seq
 (.cond (.t 9)
 .skip
 (.exit 0))
 (.seq
 (.block 1
 (.seq
 (.reg false [0, 1, 5, 7, 8] [⟨(some 10), none, false, .mov (.t 8)⟩,
 ⟨(some 5), none, false, .mov (.t 10)⟩])
 (.seq
 (.reg false [0, 1, 5, 7, 8, 16] [⟨(some 11), none, false, .mov (.t 1)⟩,
 ⟨(some 12), none, false, .mov (.t 0)⟩,
 ⟨(some 13), none, false, .mov (.t 5)⟩,
 ⟨(some 14), none, false, .ia 6 (.t 12) (.t 13)⟩,
 ⟨(some 15), none, false, .ld (some 6) (.t 14)⟩,
 ⟨(some 16), none, true, .callW (.t 11) [(.t 15)]⟩])
 (.cond (.t 16)
 (.seq
 (.reg false [4] [⟨(some 17), none, false, .mov (.t 5)⟩,
 ⟨(some 4), none, false, .mov (.t 17)⟩])
 .ret)
 .skip))))
 (.reg false [0, 1, 7, 8] [⟨(some 18), none, false, .bin .add (.t 8) (.k (.d (.int .i64 1)))⟩,
 ⟨(some 8), none, false, .mov (.t 18)⟩])))))))
 (.seq
 (.reg false [4] [⟨(some 4), none, false, .mov (.k (.d (.int .i64 (-1))))⟩])
 .ret)))
theorem c95 : (Go.Proofs.Try.f95).body.bind (comp prog.P (2, (Go.Proofs.Try.f95).ntmps) lv95) = some m95 := by kernel_rfl
theorem r95 : resOK prog.P (Go.Proofs.Try.f95).results.toList = true := by kernel_rfl

/-- spec.l1In -/
def lv96 : List (Nat × List Nat) := [(0, [0, 1, 2]), (1, [6])]
def m96 : MC :=
  (.seq
 (.reg false [0, 1, 2] [⟨(some 6), none, false, .mov (.k (.d (.bool false)))⟩])
 (.seq
 (.reg false [6] [⟨(some 7), none, false, .mov (.t 0)⟩,
 ⟨(some 8), none, false, .mov (.t 1)⟩,
 ⟨(some 9), none, false, .bin .geq (.t 7) (.t 8)⟩,
 ⟨(some 10), none, false, .mov (.t 9)⟩,
 ⟨(some 11), (some (10, true)), false, .mov (.t 0)⟩,
 ⟨(some 12), (some (10, true)), false, .mov (.t 2)⟩,
 ⟨(some 13), (some (10, true)), false, .bin .leq (.t 11) (.t 12)⟩,
 ⟨(some 14), none, false, .pick (.t 10) (.t 13) (.k (.d (.bool false)))⟩,
 ⟨(some 6), none, false, .mov (.t 14)⟩])
 .ret))
theorem c96 : (Go.Proofs.Try.f96).body.bind (comp prog.P (3, (Go.Proofs.Try.f96).ntmps) lv96) = some m96 := by kernel_rfl
theorem r96 : resOK prog.P (Go.Proofs.Try.f96).results.toList = true := by kernel_rfl

/-- impl.appealAt$1 -/
def lv97 : List (Nat × List Nat) := [(0, [1, 2]), (1, [3])]
def m97 : MC :=
  (.seq
 (.reg false [1, 2] [⟨(some 2), none, true, .box (.t 0)⟩,
 ⟨(some 3), none, false, .mov (.k (.d (.bool false)))⟩])
 (.seq
 (.reg false [3] [⟨(some 4), none, false, .fa 0 0 (.t 2)⟩,
 ⟨(some 5), none, false, .ld none (.t 4)⟩,
 ⟨(some 6), none, false, .ld none (.t 1)⟩,
 ⟨(some 7), none, false, .bin .eql (.t 5) (.t 6)⟩,
 ⟨(some 3), none, false, .mov (.t 7)⟩])
 .ret))
theorem c97 : (Go.Proofs.Try.f97).body.bind (comp prog.P (2, (Go.Proofs.Try.f97).ntmps) lv97) = some m97 := by kernel_rfl
theorem r97 : resOK prog.P (Go.Proofs.Try.f97).results.toList = true := by kernel_rfl
theorem en97 : enterOK prog.P 97 = true := by kernel_rfl

/-- impl.gcd -/
def lv98 : List (Nat × List Nat) := [(0, [0, 1]), (1, [0, 1]), (2, [0, 1, 10]), (3, [0, 1]), (4, [4])]
def m98 : MC :=
  (.seq
 (.reg false [0, 1] [⟨(some 4), none, false, .mov (.k (.d (.int .i64 0)))⟩])
 (.seq
 (.reg false [0, 1] [⟨(some 5), none, false, .mov (.t 0)⟩,
 ⟨(some 6), none, true, .call 107 [(.t 5)]⟩,
 ⟨(some 7), none, false, .mov (.t 1)⟩,
 ⟨(some 8), none, true, .call 107 [(.t 7)]⟩,
 ⟨(some 0), none, false, .mov (.t 6)⟩,
 ⟨(some 1), none, false, .mov (.t 8)⟩])
 (.seq
 (.block 0
 (.loop
 (.seq
 (.seq
 (.reg false [0, 1, 10] [⟨(some 9), none, false, .mov (.t 1)⟩,
 ⟨(some 10), none, false, .bin .neq (.t 9) (.k (.d (.int .i64 0)))⟩])
 (.cond (.t 10)
 .skip
 (.exit 0)))
 (.block 1
 (.reg true [0, 1] [⟨(some 11), none, false, .mov (.t 1)⟩,
 ⟨(some 12), none, false, .mov (.t 0)⟩,
 ⟨(some 13), none, false, .mov (.t 1)⟩,
 ⟨(some 14), none, false, .bin .rem (.t 12) (.t 13)⟩,
 ⟨(some 0), none, false, .mov (.t 11)⟩,
 ⟨(some 1), none, false, .mov (.t 14)⟩])))))
 (.seq
 (.reg false [4] [⟨(some 15), none, false, .mov (.t 0)⟩,
 ⟨(some 4), none, false, .mov (.t 15)⟩])
 .ret))))
theorem c98 : (Go.Proofs.Try.f98).body.bind (comp prog.P (0, (Go.Proofs.Try.f98).ntmps) lv98) = some m98 := by kernel_rfl
theorem r98 : resOK prog.P (Go.Proofs.Try.f98).results.toList = true := by kernel_rfl

/-- slices.IndexFunc[[]int,int] -/
def lv99 : List (Nat × List Nat) := [(0, [0, 1]), (1, [0, 1, 7, 8]), (2, [0, 1, 7, 8, 9]), (3, [0, 1, 5, 7, 8]), (4, [0, 1, 5, 7, 8, 16]), (5, [4]), (6, [0, 1, 7, 8]), (7, [4])]
def m99 : MC :=
  (.seq
 (.reg false [0, 1] [⟨(some 4), none, false, .mov (.k (.d (.int .i64 0)))⟩])
 (.seq
 (.seq
 (.reg false [0, 1, 7, 8] [⟨(some 6), none, false, .mov (.t 0)⟩,
 ⟨(some 7), none, false, .len false (.t 6)⟩,
 ⟨(some 8), none, false, .mov (.k (.d (.int .i64 0)))⟩])
 (.block 0
 (.loop
 (.seq
 (.reg false [0, 1, 7, 8, 9] [⟨(some 9), none, false, .bin .lss (.t 8) (.t 7)⟩])
 (.seq
 (.cond (.t 9)
 .skip
 (.exit 0))
 (.seq
 (.block 1
 (.seq
 (.reg false [0, 1, 5, 7, 8] [⟨(some 10), none, false, .mov (.t 8)⟩,
 ⟨(some 5), none, false, .mov (.t 10)⟩])
 (.seq
 (.reg false [0, 1, 5, 7, 8, 16] [⟨(some 11), none, false, .mov (.t 1)⟩,
 ⟨(some 12), none, false, .mov (.t 0)⟩,
 ⟨(some 13), none, false, .mov (.t 5)⟩,
 ⟨(some 14), none, false, .ia 1 (.t 12) (.t 13)⟩,
 ⟨(some 15), none, false, .ld none (.t 14)⟩,
 ⟨(some 16), none, true, .callW (.t 11) [(.t 15)]⟩])
 (.cond (.t 16)
 (.seq
 (.reg false [4] [⟨(some 17), none, false, .mov (.t 5)⟩,
 ⟨(some 4), none, false, .mov (.t 17)⟩])
 .ret)
 .skip))))
 (.reg false [0, 1, 7, 8] [⟨(some 18), none, false, .bin .add (.t 8) (.k (.d (.int .i64 1)))⟩,
 ⟨(some 8), none, false, .mov (.t 18)⟩])))))))
 (.seq
 (.reg false [4] [⟨(some 4), none, false, .mov (.k (.d (.int .i64 (-1))))⟩])
 .ret)))
theorem c99 : (Go.Proofs.Try.f99).body.bind (comp prog.P (2, (Go.Proofs.Try.f99).ntmps) lv99) = some m99 := by kernel_rfl
theorem r99 : resOK prog.P (Go.Proofs.Try.f99).results.toList = true := by kernel_rfl

/-- slices.Clone[[]impl.Appeal,impl.Appeal] -/
def lv100 : List (Nat × List Nat) := [(0, [0]), (1, [0, 4]), (2, [2]), (3, [2])]
def m100 : MC :=
  (.seq
 (.reg false [0] [⟨(some 2), none, false, .mov (.k .nil)⟩])
 (.seq
 (.seq
 (.reg false [0, 4] [⟨(some 3), none, false, .mov (.t 0)⟩,
 ⟨(some 4), none, true, .snil false (.t 3)⟩])
 (.cond (.t 4)
 (.seq
 (.reg false [2] [⟨(some 2), none, false, .mov (.k .nil)⟩])
 .ret)
 .skip))
 (.seq
 (.reg false [2] [⟨(some 5), none, true, .bs 6 0 (.st (.cons (.int .i64 0) (.cons (.int .i64 0) (.cons (.int .i64 0) (.cons (.sl true 1 .nil) (.cons (.sl true 1 .nil) (.cons (.int .i64 0) .nil))))))) []⟩,
 ⟨(some 6), none, false, .mov (.t 0)⟩,
 ⟨(some 7), none, true, .app 6 80 (.t 5) (.t 6)⟩,
 ⟨(some 2), none, false, .mov (.t 7)⟩])
 .ret)))
theorem c100 : (Go.Proofs.Try.f100).body.bind (comp prog.P (1, (Go.Proofs.Try.f100).ntmps) lv100) = some m100 := by kernel_rfl
theorem r100 : resOK prog.P (Go.Proofs.Try.f100).results.toList = true := by kernel_rfl

/-- spec.l1Rising -/
def lv106 : List (Nat × List Nat) := [(0, [0, 1, 2]), (1, [0, 1, 2, 7]), (2, [0, 1, 2, 7, 11]), (3, [0, 1, 2, 7]), (4, [0, 1, 2, 7, 37]), (5, [6]), (6, [6])]
def m106 : MC :=
  (.seq
 (.reg false [0, 1, 2] [⟨(some 6), none, false, .mov (.k (.d (.bool false)))⟩])
 (.seq
 (.seq
 (.reg false [0, 1, 2, 7] [⟨(some 7), none, false, .mov (.k (.d (.int .i64 0)))⟩])
 (.block 0
 (.loop
 (.seq
 (.seq
 (.reg false [0, 1, 2, 7, 11] [⟨(some 8), none, false, .mov (.t 7)⟩,
 ⟨(some 9), none, false, .mov (.t 0)⟩,
 ⟨(some 10), none, false, .len false (.t 9)⟩,
 ⟨(some 11), none, false, .bin .lss (.t 8) (.t 10)⟩])
 (.cond (.t 11)
 .skip
 (.exit 0)))
 (.seq
 (.block 1
 (.seq
 (.reg true [0, 1, 2, 7, 37] [⟨(some 14), none, false, .mov (.t 0)⟩,
 ⟨(some 15), none, false, .mov (.t 7)⟩,
 ⟨(some 16), none, false, .ia 1 (.t 14) (.t 15)⟩,
 ⟨(some 17), none, false, .ld none (.t 16)⟩,
 ⟨(some 18), none, false, .mov (.t 1)⟩,
 ⟨(some 19), none, false, .mov (.t 2)⟩,
 ⟨(some 20), none, false, .callP 96 [(.t 17), (.t 18), (.t 19)]⟩,
 ⟨(some 21), none, false, .un .not (.t 20)⟩,
 ⟨(some 22), none, false, .mov (.t 21)⟩,
 ⟨(some 23), (some (22, false)), false, .mov (.t 7)⟩,
 ⟨(some 24), (some (22, false)), false, .bin .gtr (.t 23) (.k (.d (.int .i64 0)))⟩,
 ⟨(some 25), (some (22, false)), false, .mov (.t 24)⟩,
 ⟨(some 26), (some (25, true)), false, .mov (.t 0)⟩,
 ⟨(some 27), (some (25, true)), false, .mov (.t 7)⟩,
 ⟨(some 28), (some (25, true)), false, .bin .sub (.t 27) (.k (.d (.int .i64 1)))⟩,
 ⟨(some 29), (some (25, true)), false, .ia 1 (.t 26) (.t 28)⟩,
 ⟨(some 30), (some (25, true)), false, .ld none (.t 29)⟩,
 ⟨(some 31), (some (25, true)), false, .mov (.t 0)⟩,
 ⟨(some 32), (some (25, true)), false, .mov (.t 7)⟩,
 ⟨(some 33), (some (25, true)), false, .ia 1 (.t 31) (.t 32)⟩,
 ⟨(some 34), (some (25, true)), false, .ld none (.t 33)⟩,
 ⟨(some 35), (some (25, true)), false, .bin .geq (.t 30) (.t 34)⟩,
 ⟨(some 36), (some (22, false)), false, .pick (.t 25) (.t 35) (.k (.d (.bool false)))⟩,
 ⟨(some 37), none, false, .pick (.t 22) (.k (.d (.bool true))) (.t 36)⟩])
 (.cond (.t 37)
 (.seq
 (.reg false [6] [⟨(some 6), none, false, .mov (.k (.d (.bool false)))⟩])
 .ret)
 .skip)))
 (.reg false [0, 1, 2, 7] [⟨(some 12), none, false, .mov (.t 7)⟩,
 ⟨(some 13), none, false, .bin .add (.t 12) (.k (.d (.int .i64 1)))⟩,
 ⟨(some 7), none, false, .mov (.t 13)⟩]))))))
 (.seq
 (.reg false [6] [⟨(some 6), none, false, .mov (.k (.d (.bool true)))⟩])
 .ret)))
theorem c106 : (Go.Proofs.Try.f106).body.bind (comp prog.P (3, (Go.Proofs.Try.f106).ntmps) lv106) = some m106 := by kernel_rfl
theorem r106 : resOK prog.P (Go.Proofs.Try.f106).results.toList = true := by kernel_rfl

/-- impl.abs -/
def lv107 : List (Nat × List Nat) := [(0, [0]), (1, [0, 4]), (2, [2]), (3, [2])]
def m107 : MC :=
  (.seq
 (.reg false [0] [⟨(some 2), none, false, .mov (.k (.d (.int .i64 0)))⟩])
 (.seq
 (.seq
 (.reg false [0, 4] [⟨(some 3), none, false, .mov (.t 0)⟩,
 ⟨(some 4), none, false, .bin .lss (.t 3) (.k (.d (.int .i64 0)))⟩])
 (.cond (.t 4)
 (.seq
 (.reg false [2] [⟨(some 5), none, false, .mov (.t 0)⟩,
 ⟨(some 6), none, false, .un .neg (.t 5)⟩,
 ⟨(some 2), none, false, .mov (.t 6)⟩])
 .ret)
 .skip))
 (.seq
 (.reg false [2] [⟨(some 7), none, false, .mov (.t 0)⟩,
 ⟨(some 2), none, false, .mov (.t 7)⟩])
 .ret)))
theorem c107 : (Go.Proofs.Try.f107).body.bind (comp prog.P (1, (Go.Proofs.Try.f107).ntmps) lv107) = some m107 := by kernel_rfl
theorem r107 : resOK prog.P (Go.Proofs.Try.f107).results.toList = true := by kernel_rfl

end Go.Pe.Try
