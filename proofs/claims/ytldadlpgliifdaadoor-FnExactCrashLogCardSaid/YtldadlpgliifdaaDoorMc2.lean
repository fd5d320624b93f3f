/-
The compact code of the functions that the law reaches, printed by gen.py, each with the proof that the machine's code is compiled to it.
-/
import Derived.Test.YtldadlpgliifdaaDoorMc1
import Derived.Test.YtldadlpgliifdaaDoorProg
import Derived.KernelRfl
set_option maxRecDepth 100000
namespace Go.Pe.Tryd
open Go.Pe

/-- spec.l1Sum -/
def lv74 : List (Nat × List Nat) := [(0, [0]), (1, [0, 3]), (2, [0, 3, 4]), (3, [0, 3, 4, 8]), (4, [0, 3, 4]), (5, [0, 3, 4]), (6, [2])]
def m74 : MC :=
  (.seq
 (.reg false [0] [⟨(some 2), none, false, .mov (.k (.d (.int .i64 0)))⟩])
 (.seq
 (.reg false [0, 3] [⟨(some 3), none, false, .mov (.k (.d (.int .i64 7)))⟩])
 (.seq
 (.seq
 (.reg false [0, 3, 4] [⟨(some 4), none, false, .mov (.k (.d (.int .i64 0)))⟩])
 (.block 0
 (.loop
 (.seq
 (.seq
 (.reg false [0, 3, 4, 8] [⟨(some 5), none, false, .mov (.t 4)⟩,
 ⟨(some 6), none, false, .mov (.t 0)⟩,
 ⟨(some 7), none, false, .len true (.t 6)⟩,
 ⟨(some 8), none, false, .bin .lss (.t 5) (.t 7)⟩])
 (.cond (.t 8)
 .skip
 (.exit 0)))
 (.seq
 (.block 1
 (.reg false [0, 3, 4] [⟨(some 11), none, false, .mov (.t 3)⟩,
 ⟨(some 12), none, false, .bin .mul (.k (.d (.int .i64 41))) (.t 11)⟩,
 ⟨(some 13), none, false, .mov (.t 0)⟩,
 ⟨(some 14), none, false, .mov (.t 4)⟩,
 ⟨(some 15), none, false, .ix (.t 13) (.t 14)⟩,
 ⟨(some 16), none, false, .conv .i64 (.t 15)⟩,
 ⟨(some 17), none, false, .bin .add (.t 12) (.t 16)⟩,
 ⟨(some 18), none, false, .bin .add (.t 17) (.k (.d (.int .i64 1)))⟩,
 ⟨(some 19), none, false, .bin .rem (.t 18) (.k (.d (.int .i64 999979)))⟩,
 ⟨(some 3), none, false, .mov (.t 19)⟩]))
 (.reg false [0, 3, 4] [⟨(some 9), none, false, .mov (.t 4)⟩,
 ⟨(some 10), none, false, .bin .add (.t 9) (.k (.d (.int .i64 1)))⟩,
 ⟨(some 4), none, false, .mov (.t 10)⟩]))))))
 (.seq
 (.reg false [2] [⟨(some 20), none, false, .mov (.t 3)⟩,
 ⟨(some 2), none, false, .mov (.t 20)⟩])
 .ret))))
theorem c74 : (Go.Proofs.Tryd.f74).body.bind (comp prog.P (1, (Go.Proofs.Tryd.f74).ntmps) lv74) = some m74 := by kernel_rfl
theorem r74 : resOK prog.P (Go.Proofs.Tryd.f74).results.toList = true := by kernel_rfl

end Go.Pe.Tryd
