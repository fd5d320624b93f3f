/-
The compact code of the functions that the law reaches, printed by gen.py, each with the proof that the machine's code is compiled to it.
-/
import Derived.Test.YtpephpnbhlfdaaaMc1
import Derived.Test.YtpephpnbhlfdaaaProg
import Derived.KernelRfl
set_option maxRecDepth 100000
namespace Go.Pe.Try
open Go.Pe

/-- bits.Len64 -/
def lv72 : List (Nat × List Nat) := [(0, [0, 2]), (1, [0, 2, 4]), (2, [0]), (3, [0, 2]), (4, [0, 2, 8]), (5, [0, 2]), (6, [0, 2]), (7, [0, 2, 14]), (8, [0, 2]), (9, [0, 2]), (10, [2])]
def m72 : MC :=
  (.seq
 (.reg false [0, 2] [⟨(some 2), none, false, .mov (.k (.d (.int .i64 0)))⟩])
 (.seq
 (.seq
 (.reg false [0, 2, 4] [⟨(some 3), none, false, .mov (.t 0)⟩,
 ⟨(some 4), none, false, .bin .geq (.t 3) (.k (.d (.int .u64 4294967296)))⟩])
 (.cond (.t 4)
 (.seq
 (.reg false [0] [⟨(some 5), none, false, .mov (.t 0)⟩,
 ⟨(some 6), none, false, .shr (.t 5) (.k (.d (.int .u64 32)))⟩,
 ⟨(some 0), none, false, .mov (.t 6)⟩])
 (.reg false [0, 2] [⟨(some 2), none, false, .mov (.k (.d (.int .i64 32)))⟩]))
 .skip))
 (.seq
 (.seq
 (.reg false [0, 2, 8] [⟨(some 7), none, false, .mov (.t 0)⟩,
 ⟨(some 8), none, false, .bin .geq (.t 7) (.k (.d (.int .u64 65536)))⟩])
 (.cond (.t 8)
 (.seq
 (.reg false [0, 2] [⟨(some 9), none, false, .mov (.t 0)⟩,
 ⟨(some 10), none, false, .shr (.t 9) (.k (.d (.int .u64 16)))⟩,
 ⟨(some 0), none, false, .mov (.t 10)⟩])
 (.reg false [0, 2] [⟨(some 11), none, false, .mov (.t 2)⟩,
 ⟨(some 12), none, false, .bin .add (.t 11) (.k (.d (.int .i64 16)))⟩,
 ⟨(some 2), none, false, .mov (.t 12)⟩]))
 .skip))
 (.seq
 (.seq
 (.reg false [0, 2, 14] [⟨(some 13), none, false, .mov (.t 0)⟩,
 ⟨(some 14), none, false, .bin .geq (.t 13) (.k (.d (.int .u64 256)))⟩])
 (.cond (.t 14)
 (.seq
 (.reg false [0, 2] [⟨(some 15), none, false, .mov (.t 0)⟩,
 ⟨(some 16), none, false, .shr (.t 15) (.k (.d (.int .u64 8)))⟩,
 ⟨(some 0), none, false, .mov (.t 16)⟩])
 (.reg false [0, 2] [⟨(some 17), none, false, .mov (.t 2)⟩,
 ⟨(some 18), none, false, .bin .add (.t 17) (.k (.d (.int .i64 8)))⟩,
 ⟨(some 2), none, false, .mov (.t 18)⟩]))
 .skip))
 (.seq
 (.reg false [2] [⟨(some 19), none, false, .mov (.t 2)⟩,
 ⟨(some 20), none, false, .mov (.t 0)⟩,
 ⟨(some 21), none, false, .conv .u8 (.t 20)⟩,
 ⟨(some 22), none, false, .ix (.k (.d (.str [0, 1, 2, 2, 3, 3, 3, 3, 4, 4, 4, 4, 4, 4, 4, 4, 5, 5, 5, 5, 5, 5, 5, 5, 5, 5, 5, 5, 5, 5, 5, 5, 6, 6, 6, 6, 6, 6, 6, 6, 6, 6, 6, 6, 6, 6, 6, 6, 6, 6, 6, 6, 6, 6, 6, 6, 6, 6, 6, 6, 6, 6, 6, 6, 7, 7, 7, 7, 7, 7, 7, 7, 7, 7, 7, 7, 7, 7, 7, 7, 7, 7, 7, 7, 7, 7, 7, 7, 7, 7, 7, 7, 7, 7, 7, 7, 7, 7, 7, 7, 7, 7, 7, 7, 7, 7, 7, 7, 7, 7, 7, 7, 7, 7, 7, 7, 7, 7, 7, 7, 7, 7, 7, 7, 7, 7, 7, 7, 8, 8, 8, 8, 8, 8, 8, 8, 8, 8, 8, 8, 8, 8, 8, 8, 8, 8, 8, 8, 8, 8, 8, 8, 8, 8, 8, 8, 8, 8, 8, 8, 8, 8, 8, 8, 8, 8, 8, 8, 8, 8, 8, 8, 8, 8, 8, 8, 8, 8, 8, 8, 8, 8, 8, 8, 8, 8, 8, 8, 8, 8, 8, 8, 8, 8, 8, 8, 8, 8, 8, 8, 8, 8, 8, 8, 8, 8, 8, 8, 8, 8, 8, 8, 8, 8, 8, 8, 8, 8, 8, 8, 8, 8, 8, 8, 8, 8, 8, 8, 8, 8, 8, 8, 8, 8, 8, 8, 8, 8, 8, 8, 8, 8, 8, 8, 8, 8, 8, 8, 8, 8, 8, 8, 8, 8, 8, 8]))) (.t 21)⟩,
 ⟨(some 23), none, false, .conv .i64 (.t 22)⟩,
 ⟨(some 24), none, false, .bin .add (.t 19) (.t 23)⟩,
 ⟨(some 2), none, false, .mov (.t 24)⟩])
 .ret)))))
theorem c72 : (Go.Proofs.Try.f72).body.bind (comp prog.P (0, (Go.Proofs.Try.f72).ntmps) lv72) = some m72 := by kernel_rfl
theorem r72 : resOK prog.P (Go.Proofs.Try.f72).results.toList = true := by kernel_rfl

/-- slices.IndexFunc[[]int,int] -/
def lv75 : List (Nat × List Nat) := [(0, [0, 1]), (1, [0, 1, 7, 8]), (2, [0, 1, 7, 8, 9]), (3, [0, 1, 5, 7, 8]), (4, [0, 1, 5, 7, 8, 16]), (5, [4]), (6, [0, 1, 7, 8]), (7, [4])]
def m75 : MC :=
  (.seq
 (.reg false [0, 1] [⟨(some 4), none, false, .mov (.k (.d (.int .i64 0)))⟩])
 (.seq
 (.seq
 (.reg false [0, 1, 7, 8] [⟨(some 6), none, false, .mov (.t 0)⟩,
 ⟨(some 7), none, false, .len false (.t 6)⟩,
 ⟨(some 8), none, false, .mov (.k (.d (.int .i64 0)))⟩])
 (.block 0
 (.loop
 (.seq
 (.reg false [0, 1, 7, 8, 9] [⟨(some 9), none, false, .bin .lss (.t 8) (.t 7)⟩])
 (.seq
 (.cond (.t 9)
 .skip
 (.exit 0))
 (.seq
 (.block 1
 (.seq
 (.reg false [0, 1, 5, 7, 8] [⟨(some 10), none, false, .mov (.t 8)⟩,
 ⟨(some 5), none, false, .mov (.t 10)⟩])
 (.seq
 (.reg false [0, 1, 5, 7, 8, 16] [⟨(some 11), none, false, .mov (.t 1)⟩,
 ⟨(some 12), none, false, .mov (.t 0)⟩,
 ⟨(some 13), none, false, .mov (.t 5)⟩,
 ⟨(some 14), none, false, .ia 1 (.t 12) (.t 13)⟩,
 ⟨(some 15), none, false, .ld none (.t 14)⟩,
 ⟨(some 16), none, true, .callW (.t 11) [(.t 15)]⟩])
 (.cond (.t 16)
 (.seq
 (.reg false [4] [⟨(some 17), none, false, .mov (.t 5)⟩,
 ⟨(some 4), none, false, .mov (.t 17)⟩])
 .ret)
 .skip))))
 (.reg false [0, 1, 7, 8] [⟨(some 18), none, false, .bin .add (.t 8) (.k (.d (.int .i64 1)))⟩,
 ⟨(some 8), none, false, .mov (.t 18)⟩])))))))
 (.seq
 (.reg false [4] [⟨(some 4), none, false, .mov (.k (.d (.int .i64 (-1))))⟩])
 .ret)))
theorem c75 : (Go.Proofs.Try.f75).body.bind (comp prog.P (2, (Go.Proofs.Try.f75).ntmps) lv75) = some m75 := by kernel_rfl
theorem r75 : resOK prog.P (Go.Proofs.Try.f75).results.toList = true := by kernel_rfl

end Go.Pe.Try
