/-
The compact code of the functions that the law reaches, printed by gen.py, each with the proof that the machine's code is compiled to it.
-/
import Derived.Test.YtdjfaadhfcidnaaPeC
import Derived.Test.YtdjfaadhfcidnaaProg
import Derived.KernelRfl
set_option maxRecDepth 100000
namespace Go.Pe.Try
open Go.Pe

/-- the program; of its start-up memory nothing is asked. -/
noncomputable def prog : PG := ⟨Go.Proofs.Try.prog, fun _ => True, fun _ _ _ _ h => h⟩

theorem sz26 : sizeOfT prog.P 26 = some 2 := by kernel_rfl

/-- laws.FnExactIsValidRecord -/
def lv3 : List (Nat × List Nat) := [(0, [1]), (1, [1, 3]), (2, [1, 3]), (3, [1, 10]), (4, [2]), (5, [1, 4]), (6, [4, 5]), (7, [19]), (8, [2]), (9, [2])]
def m3 : MC :=
  (.seq
 (.reg false [1] [⟨(some 1), none, true, .box (.t 0)⟩,
 ⟨(some 2), none, false, .mov (.k (.d (.bool false)))⟩])
 (.seq
 (.reg false [1, 3] [⟨(some 3), none, false, .mov (.k (.d (.int .i64 1048576)))⟩])
 (.seq
 (.reg false [1, 3] [⟨(some 6), none, false, .ld (some 2) (.t 1)⟩,
 ⟨(some 7), none, false, .mov (.t 3)⟩,
 ⟨(some 8), none, true, .call 4 [(.t 6), (.t 7)]⟩,
 ⟨(some 3), none, false, .mov (.t 8)⟩])
 (.seq
 (.seq
 (.reg false [1, 10] [⟨(some 9), none, false, .mov (.t 3)⟩,
 ⟨(some 10), none, false, .bin .lss (.t 9) (.k (.d (.int .i64 0)))⟩])
 (.cond (.t 10)
 (.seq
 (.reg false [2] [⟨(some 2), none, false, .mov (.k (.d (.bool true)))⟩])
 .ret)
 .skip))
 (.seq
 (.reg false [1, 4] [⟨(some 11), none, false, .ld (some 2) (.t 1)⟩,
 ⟨(some 12), none, true, .call 6 [(.t 11)]⟩,
 ⟨(some 13), none, true, .call 5 [(.t 12)]⟩,
 ⟨(some 4), none, false, .mov (.t 13)⟩])
 (.seq
 (.reg false [4, 5] [⟨(some 14), none, false, .ld (some 2) (.t 1)⟩,
 ⟨(some 15), none, true, .call 6 [(.t 14)]⟩,
 ⟨(some 16), none, true, .call 7 [(.t 15)]⟩,
 ⟨(some 5), none, false, .mov (.t 16)⟩])
 (.seq
 (.seq
 (.reg false [19] [⟨(some 17), none, false, .mov (.t 5)⟩,
 ⟨(some 18), none, false, .mov (.t 4)⟩,
 ⟨(some 19), none, false, .bb .neq (.t 17) (.t 18)⟩])
 (.cond (.t 19)
 (.seq
 (.reg false [2] [⟨(some 2), none, false, .mov (.k (.d (.bool false)))⟩])
 .ret)
 .skip))
 (.seq
 (.reg false [2] [⟨(some 2), none, false, .mov (.k (.d (.bool true)))⟩])
 .ret))))))))
theorem c3 : (Go.Proofs.Try.f3).body.bind (comp prog.P (1, (Go.Proofs.Try.f3).ntmps) lv3) = some m3 := by kernel_rfl
theorem r3 : resOK prog.P (Go.Proofs.Try.f3).results.toList = true := by kernel_rfl

/-- laws.szLogRecord -/
def lv4 : List (Nat × List Nat) := [(0, [1, 2]), (1, [1, 2]), (2, [1, 2, 11]), (3, [4]), (4, [1]), (5, [1, 18]), (6, [4]), (7, [4])]
def m4 : MC :=
  (.seq
 (.reg false [1, 2] [⟨(some 2), none, true, .box (.t 0)⟩,
 ⟨(some 4), none, false, .mov (.k (.d (.int .i64 0)))⟩])
 (.seq
 (.reg false [1, 2] [⟨(some 5), none, false, .mov (.t 1)⟩,
 ⟨(some 6), none, false, .fa 0 0 (.t 2)⟩,
 ⟨(some 7), none, false, .ld none (.t 6)⟩,
 ⟨(some 8), none, false, .len true (.t 7)⟩,
 ⟨(some 9), none, false, .bin .sub (.t 5) (.t 8)⟩,
 ⟨(some 1), none, false, .mov (.t 9)⟩])
 (.seq
 (.seq
 (.reg false [1, 2, 11] [⟨(some 10), none, false, .mov (.t 1)⟩,
 ⟨(some 11), none, false, .bin .lss (.t 10) (.k (.d (.int .i64 0)))⟩])
 (.cond (.t 11)
 (.seq
 (.reg false [4] [⟨(some 4), none, false, .mov (.k (.d (.int .i64 (-1))))⟩])
 .ret)
 .skip))
 (.seq
 (.reg false [1] [⟨(some 12), none, false, .mov (.t 1)⟩,
 ⟨(some 13), none, false, .fa 1 1 (.t 2)⟩,
 ⟨(some 14), none, false, .ld none (.t 13)⟩,
 ⟨(some 15), none, false, .len true (.t 14)⟩,
 ⟨(some 16), none, false, .bin .sub (.t 12) (.t 15)⟩,
 ⟨(some 1), none, false, .mov (.t 16)⟩])
 (.seq
 (.seq
 (.reg false [1, 18] [⟨(some 17), none, false, .mov (.t 1)⟩,
 ⟨(some 18), none, false, .bin .lss (.t 17) (.k (.d (.int .i64 0)))⟩])
 (.cond (.t 18)
 (.seq
 (.reg false [4] [⟨(some 4), none, false, .mov (.k (.d (.int .i64 (-1))))⟩])
 .ret)
 .skip))
 (.seq
 (.reg false [4] [⟨(some 19), none, false, .mov (.t 1)⟩,
 ⟨(some 4), none, false, .mov (.t 19)⟩])
 .ret))))))
theorem c4 : (Go.Proofs.Try.f4).body.bind (comp prog.P (1, (Go.Proofs.Try.f4).ntmps) lv4) = some m4 := by kernel_rfl
theorem r4 : resOK prog.P (Go.Proofs.Try.f4).results.toList = true := by kernel_rfl

/-- spec.IsValidRecord -/
def lv5 : List (Nat × List Nat) := [(0, [1]), (1, [2])]
def m5 : MC :=
  (.seq
 (.reg false [1] [⟨(some 1), none, true, .box (.t 0)⟩,
 ⟨(some 2), none, false, .mov (.k (.d (.bool false)))⟩])
 (.seq
 (.reg false [2] [⟨(some 3), none, false, .ld (some 2) (.t 1)⟩,
 ⟨(some 4), none, true, .call 8 [(.t 3)]⟩,
 ⟨(some 2), none, false, .mov (.t 4)⟩])
 .ret))
theorem c5 : (Go.Proofs.Try.f5).body.bind (comp prog.P (1, (Go.Proofs.Try.f5).ntmps) lv5) = some m5 := by kernel_rfl
theorem r5 : resOK prog.P (Go.Proofs.Try.f5).results.toList = true := by kernel_rfl

/-- laws.toLogRecord -/
def lv6 : List (Nat × List Nat) := [(0, [1, 2]), (1, [1, 2, 3]), (2, [1, 2, 3]), (3, [2, 3]), (4, [2])]
def m6 : MC :=
  (.seq
 (.reg false [1, 2] [⟨(some 1), none, true, .box (.t 0)⟩,
 ⟨(some 2), none, true, .alloc (.st (.cons (.str []) (.cons (.str []) .nil)))⟩])
 (.seq
 (.reg false [1, 2, 3] [⟨(some 3), none, true, .alloc (.st (.cons (.str []) (.cons (.str []) .nil)))⟩])
 (.seq
 (.reg false [1, 2, 3] [⟨(some 4), none, false, .fa 0 0 (.t 1)⟩,
 ⟨(some 5), none, false, .ld none (.t 4)⟩,
 ⟨(some 6), none, false, .fa 0 0 (.t 3)⟩,
 ⟨none, none, true, .st 1 (.t 6) (.t 5)⟩])
 (.seq
 (.reg false [2, 3] [⟨(some 7), none, false, .fa 1 1 (.t 1)⟩,
 ⟨(some 8), none, false, .ld none (.t 7)⟩,
 ⟨(some 9), none, false, .fa 1 1 (.t 3)⟩,
 ⟨none, none, true, .st 1 (.t 9) (.t 8)⟩])
 (.seq
 (.reg false [2] [⟨(some 10), none, false, .ld (some 2) (.t 3)⟩,
 ⟨none, none, true, .st 2 (.t 2) (.t 10)⟩])
 .ret)))))
theorem c6 : (Go.Proofs.Try.f6).body.bind (comp prog.P (1, (Go.Proofs.Try.f6).ntmps) lv6) = some m6 := by kernel_rfl
theorem r6 : resOK prog.P (Go.Proofs.Try.f6).results.toList = true := by kernel_rfl

/-- impl.IsValidRecord -/
def lv7 : List (Nat × List Nat) := [(0, [1]), (1, [2])]
def m7 : MC :=
  (.seq
 (.reg false [1] [⟨(some 1), none, true, .box (.t 0)⟩,
 ⟨(some 2), none, false, .mov (.k (.d (.bool false)))⟩])
 (.seq
 (.reg false [2] [⟨(some 3), none, false, .fa 0 0 (.t 1)⟩,
 ⟨(some 4), none, false, .ld none (.t 3)⟩,
 ⟨(some 5), none, false, .len true (.t 4)⟩,
 ⟨(some 6), none, true, .call 9 [(.t 5), (.k (.d (.int .i64 1))), (.k (.d (.int .i64 160)))]⟩,
 ⟨(some 7), none, false, .mov (.t 6)⟩,
 ⟨(some 8), (some (7, true)), false, .fa 1 1 (.t 1)⟩,
 ⟨(some 9), (some (7, true)), false, .ld none (.t 8)⟩,
 ⟨(some 10), (some (7, true)), false, .len true (.t 9)⟩,
 ⟨(some 11), (some (7, true)), false, .bin .leq (.t 10) (.k (.d (.int .i64 200)))⟩,
 ⟨(some 12), none, false, .pick (.t 7) (.t 11) (.k (.d (.bool false)))⟩,
 ⟨(some 13), none, false, .mov (.t 12)⟩,
 ⟨(some 14), (some (13, true)), false, .fa 0 0 (.t 1)⟩,
 ⟨(some 15), (some (13, true)), false, .ld none (.t 14)⟩,
 ⟨(some 16), (some (13, true)), true, .call 10 [(.t 15)]⟩,
 ⟨(some 17), none, false, .pick (.t 13) (.t 16) (.k (.d (.bool false)))⟩,
 ⟨(some 18), none, false, .mov (.t 17)⟩,
 ⟨(some 19), (some (18, true)), false, .fa 1 1 (.t 1)⟩,
 ⟨(some 20), (some (18, true)), false, .ld none (.t 19)⟩,
 ⟨(some 21), (some (18, true)), true, .call 10 [(.t 20)]⟩,
 ⟨(some 22), none, false, .pick (.t 18) (.t 21) (.k (.d (.bool false)))⟩,
 ⟨(some 23), none, false, .mov (.t 22)⟩,
 ⟨(some 24), (some (23, true)), false, .fa 0 0 (.t 1)⟩,
 ⟨(some 25), (some (23, true)), false, .ld none (.t 24)⟩,
 ⟨(some 26), (some (23, true)), true, .call 11 [(.t 25), (.k (.d (.str [64])))]⟩,
 ⟨(some 27), (some (23, true)), false, .un .not (.t 26)⟩,
 ⟨(some 28), none, false, .pick (.t 23) (.t 27) (.k (.d (.bool false)))⟩,
 ⟨(some 2), none, false, .mov (.t 28)⟩])
 .ret))
theorem c7 : (Go.Proofs.Try.f7).body.bind (comp prog.P (1, (Go.Proofs.Try.f7).ntmps) lv7) = some m7 := by kernel_rfl
theorem r7 : resOK prog.P (Go.Proofs.Try.f7).results.toList = true := by kernel_rfl

/-- spec.l27Good -/
def lv8 : List (Nat × List Nat) := [(0, [1]), (1, [2])]
def m8 : MC :=
  (.seq
 (.reg false [1] [⟨(some 1), none, true, .box (.t 0)⟩,
 ⟨(some 2), none, false, .mov (.k (.d (.bool false)))⟩])
 (.seq
 (.reg false [2] [⟨(some 3), none, false, .fa 0 0 (.t 1)⟩,
 ⟨(some 4), none, false, .ld none (.t 3)⟩,
 ⟨(some 5), none, false, .bin .neq (.t 4) (.k (.d (.str [])))⟩,
 ⟨(some 6), none, false, .mov (.t 5)⟩,
 ⟨(some 7), (some (6, true)), false, .fa 0 0 (.t 1)⟩,
 ⟨(some 8), (some (6, true)), false, .ld none (.t 7)⟩,
 ⟨(some 9), (some (6, true)), true, .call 12 [(.t 8), (.k (.d (.int .i64 160)))]⟩,
 ⟨(some 10), none, false, .pick (.t 6) (.t 9) (.k (.d (.bool false)))⟩,
 ⟨(some 11), none, false, .mov (.t 10)⟩,
 ⟨(some 12), (some (11, true)), false, .fa 0 0 (.t 1)⟩,
 ⟨(some 13), (some (11, true)), false, .ld none (.t 12)⟩,
 ⟨(some 14), (some (11, true)), true, .call 13 [(.t 13), (.k (.d (.int .u8 64)))]⟩,
 ⟨(some 15), (some (11, true)), false, .un .not (.t 14)⟩,
 ⟨(some 16), none, false, .pick (.t 11) (.t 15) (.k (.d (.bool false)))⟩,
 ⟨(some 17), none, false, .mov (.t 16)⟩,
 ⟨(some 18), (some (17, true)), false, .fa 1 1 (.t 1)⟩,
 ⟨(some 19), (some (17, true)), false, .ld none (.t 18)⟩,
 ⟨(some 20), (some (17, true)), true, .call 12 [(.t 19), (.k (.d (.int .i64 200)))]⟩,
 ⟨(some 21), none, false, .pick (.t 17) (.t 20) (.k (.d (.bool false)))⟩,
 ⟨(some 2), none, false, .mov (.t 21)⟩])
 .ret))
theorem c8 : (Go.Proofs.Try.f8).body.bind (comp prog.P (1, (Go.Proofs.Try.f8).ntmps) lv8) = some m8 := by kernel_rfl
theorem r8 : resOK prog.P (Go.Proofs.Try.f8).results.toList = true := by kernel_rfl

/-- impl.within -/
def lv9 : List (Nat × List Nat) := [(0, [0, 1, 2]), (1, [6])]
def m9 : MC :=
  (.seq
 (.reg false [0, 1, 2] [⟨(some 6), none, false, .mov (.k (.d (.bool false)))⟩])
 (.seq
 (.reg false [6] [⟨(some 7), none, false, .mov (.t 1)⟩,
 ⟨(some 8), none, false, .mov (.t 0)⟩,
 ⟨(some 9), none, false, .bin .leq (.t 7) (.t 8)⟩,
 ⟨(some 10), none, false, .mov (.t 9)⟩,
 ⟨(some 11), (some (10, true)), false, .mov (.t 0)⟩,
 ⟨(some 12), (some (10, true)), false, .mov (.t 2)⟩,
 ⟨(some 13), (some (10, true)), false, .bin .leq (.t 11) (.t 12)⟩,
 ⟨(some 14), none, false, .pick (.t 10) (.t 13) (.k (.d (.bool false)))⟩,
 ⟨(some 6), none, false, .mov (.t 14)⟩])
 .ret))
theorem c9 : (Go.Proofs.Try.f9).body.bind (comp prog.P (3, (Go.Proofs.Try.f9).ntmps) lv9) = some m9 := by kernel_rfl
theorem r9 : resOK prog.P (Go.Proofs.Try.f9).results.toList = true := by kernel_rfl

/-- impl.isPlain -/
def lv10 : List (Nat × List Nat) := [(0, [0]), (1, [0, 5, 6]), (2, [0, 5, 6, 7]), (3, [0, 3, 5, 6]), (4, [0, 5, 6, 24]), (5, [2]), (6, [0, 5, 6]), (7, [2])]
def m10 : MC :=
  (.seq
 (.reg false [0] [⟨(some 2), none, false, .mov (.k (.d (.bool false)))⟩])
 (.seq
 (.seq
 (.reg false [0, 5, 6] [⟨(some 4), none, false, .mov (.t 0)⟩,
 ⟨(some 5), none, false, .len true (.t 4)⟩,
 ⟨(some 6), none, false, .mov (.k (.d (.int .i64 0)))⟩])
 (.block 0
 (.loop
 (.seq
 (.reg false [0, 5, 6, 7] [⟨(some 7), none, false, .bin .lss (.t 6) (.t 5)⟩])
 (.seq
 (.cond (.t 7)
 .skip
 (.exit 0))
 (.seq
 (.block 1
 (.seq
 (.reg false [0, 3, 5, 6] [⟨(some 8), none, false, .mov (.t 6)⟩,
 ⟨(some 3), none, false, .mov (.t 8)⟩])
 (.seq
 (.reg false [0, 5, 6, 24] [⟨(some 9), none, false, .mov (.t 0)⟩,
 ⟨(some 10), none, false, .mov (.t 3)⟩,
 ⟨(some 11), none, false, .ix (.t 9) (.t 10)⟩,
 ⟨(some 12), none, false, .bin .lss (.t 11) (.k (.d (.int .u8 32)))⟩,
 ⟨(some 13), none, false, .mov (.t 12)⟩,
 ⟨(some 14), (some (13, false)), false, .mov (.t 0)⟩,
 ⟨(some 15), (some (13, false)), false, .mov (.t 3)⟩,
 ⟨(some 16), (some (13, false)), false, .ix (.t 14) (.t 15)⟩,
 ⟨(some 17), (some (13, false)), false, .bin .gtr (.t 16) (.k (.d (.int .u8 126)))⟩,
 ⟨(some 18), none, false, .pick (.t 13) (.k (.d (.bool true))) (.t 17)⟩,
 ⟨(some 19), none, false, .mov (.t 18)⟩,
 ⟨(some 20), (some (19, false)), false, .mov (.t 0)⟩,
 ⟨(some 21), (some (19, false)), false, .mov (.t 3)⟩,
 ⟨(some 22), (some (19, false)), false, .ix (.t 20) (.t 21)⟩,
 ⟨(some 23), (some (19, false)), false, .bin .eql (.t 22) (.k (.d (.int .u8 35)))⟩,
 ⟨(some 24), none, false, .pick (.t 19) (.k (.d (.bool true))) (.t 23)⟩])
 (.cond (.t 24)
 (.seq
 (.reg false [2] [⟨(some 2), none, false, .mov (.k (.d (.bool false)))⟩])
 .ret)
 .skip))))
 (.reg false [0, 5, 6] [⟨(some 25), none, false, .bin .add (.t 6) (.k (.d (.int .i64 1)))⟩,
 ⟨(some 6), none, false, .mov (.t 25)⟩])))))))
 (.seq
 (.reg false [2] [⟨(some 2), none, false, .mov (.k (.d (.bool true)))⟩])
 .ret)))
theorem c10 : (Go.Proofs.Try.f10).body.bind (comp prog.P (1, (Go.Proofs.Try.f10).ntmps) lv10) = some m10 := by kernel_rfl
theorem r10 : resOK prog.P (Go.Proofs.Try.f10).results.toList = true := by kernel_rfl

/-- spec.l27Plain -/
def lv12 : List (Nat × List Nat) := [(0, [0, 1]), (1, [0, 1, 5]), (2, [0, 1, 5, 9]), (3, [0, 1, 5]), (4, [0, 1, 5, 23]), (5, [4]), (6, [4])]
def m12 : MC :=
  (.seq
 (.reg false [0, 1] [⟨(some 4), none, false, .mov (.k (.d (.bool false)))⟩])
 (.seq
 (.seq
 (.reg false [0, 1, 5] [⟨(some 5), none, false, .mov (.k (.d (.int .i64 0)))⟩])
 (.block 0
 (.loop
 (.seq
 (.seq
 (.reg false [0, 1, 5, 9] [⟨(some 6), none, false, .mov (.t 5)⟩,
 ⟨(some 7), none, false, .mov (.t 0)⟩,
 ⟨(some 8), none, false, .len true (.t 7)⟩,
 ⟨(some 9), none, false, .bin .lss (.t 6) (.t 8)⟩])
 (.cond (.t 9)
 .skip
 (.exit 0)))
 (.seq
 (.block 1
 (.seq
 (.reg false [0, 1, 5, 23] [⟨(some 12), none, false, .mov (.t 0)⟩,
 ⟨(some 13), none, false, .mov (.t 5)⟩,
 ⟨(some 14), none, false, .ix (.t 12) (.t 13)⟩,
 ⟨(some 15), none, false, .conv .i64 (.t 14)⟩,
 ⟨(some 16), none, true, .call 15 [(.t 15), (.k (.d (.int .i64 32))), (.k (.d (.int .i64 126)))]⟩,
 ⟨(some 17), none, false, .un .not (.t 16)⟩,
 ⟨(some 18), none, false, .mov (.t 17)⟩,
 ⟨(some 19), (some (18, false)), false, .mov (.t 0)⟩,
 ⟨(some 20), (some (18, false)), false, .mov (.t 5)⟩,
 ⟨(some 21), (some (18, false)), false, .ix (.t 19) (.t 20)⟩,
 ⟨(some 22), (some (18, false)), false, .bin .eql (.t 21) (.k (.d (.int .u8 35)))⟩,
 ⟨(some 23), none, false, .pick (.t 18) (.k (.d (.bool true))) (.t 22)⟩])
 (.cond (.t 23)
 (.seq
 (.reg false [4] [⟨(some 4), none, false, .mov (.k (.d (.bool false)))⟩])
 .ret)
 .skip)))
 (.reg false [0, 1, 5] [⟨(some 10), none, false, .mov (.t 5)⟩,
 ⟨(some 11), none, false, .bin .add (.t 10) (.k (.d (.int .i64 1)))⟩,
 ⟨(some 5), none, false, .mov (.t 11)⟩]))))))
 (.seq
 (.reg false [4] [⟨(some 24), none, false, .mov (.t 0)⟩,
 ⟨(some 25), none, false, .len true (.t 24)⟩,
 ⟨(some 26), none, false, .mov (.t 1)⟩,
 ⟨(some 27), none, false, .bin .leq (.t 25) (.t 26)⟩,
 ⟨(some 4), none, false, .mov (.t 27)⟩])
 .ret)))
theorem c12 : (Go.Proofs.Try.f12).body.bind (comp prog.P (2, (Go.Proofs.Try.f12).ntmps) lv12) = some m12 := by kernel_rfl
theorem r12 : resOK prog.P (Go.Proofs.Try.f12).results.toList = true := by kernel_rfl

/-- spec.l1Stands -/
def lv13 : List (Nat × List Nat) := [(0, [0, 1]), (1, [0, 1, 5]), (2, [0, 1, 5, 9]), (3, [0, 1, 5]), (4, [0, 1, 5, 16]), (5, [4]), (6, [4])]
def m13 : MC :=
  (.seq
 (.reg false [0, 1] [⟨(some 4), none, false, .mov (.k (.d (.bool false)))⟩])
 (.seq
 (.seq
 (.reg false [0, 1, 5] [⟨(some 5), none, false, .mov (.k (.d (.int .i64 0)))⟩])
 (.block 0
 (.loop
 (.seq
 (.seq
 (.reg false [0, 1, 5, 9] [⟨(some 6), none, false, .mov (.t 5)⟩,
 ⟨(some 7), none, false, .mov (.t 0)⟩,
 ⟨(some 8), none, false, .len true (.t 7)⟩,
 ⟨(some 9), none, false, .bin .lss (.t 6) (.t 8)⟩])
 (.cond (.t 9)
 .skip
 (.exit 0)))
 (.seq
 (.block 1
 (.seq
 (.reg false [0, 1, 5, 16] [⟨(some 12), none, false, .mov (.t 0)⟩,
 ⟨(some 13), none, false, .mov (.t 5)⟩,
 ⟨(some 14), none, false, .ix (.t 12) (.t 13)⟩,
 ⟨(some 15), none, false, .mov (.t 1)⟩,
 ⟨(some 16), none, false, .bin .eql (.t 14) (.t 15)⟩])
 (.cond (.t 16)
 (.seq
 (.reg false [4] [⟨(some 4), none, false, .mov (.k (.d (.bool true)))⟩])
 .ret)
 .skip)))
 (.reg false [0, 1, 5] [⟨(some 10), none, false, .mov (.t 5)⟩,
 ⟨(some 11), none, false, .bin .add (.t 10) (.k (.d (.int .i64 1)))⟩,
 ⟨(some 5), none, false, .mov (.t 11)⟩]))))))
 (.seq
 (.reg false [4] [⟨(some 4), none, false, .mov (.k (.d (.bool false)))⟩])
 .ret)))
theorem c13 : (Go.Proofs.Try.f13).body.bind (comp prog.P (2, (Go.Proofs.Try.f13).ntmps) lv13) = some m13 := by kernel_rfl
theorem r13 : resOK prog.P (Go.Proofs.Try.f13).results.toList = true := by kernel_rfl

/-- spec.l1In -/
def lv15 : List (Nat × List Nat) := [(0, [0, 1, 2]), (1, [6])]
def m15 : MC :=
  (.seq
 (.reg false [0, 1, 2] [⟨(some 6), none, false, .mov (.k (.d (.bool false)))⟩])
 (.seq
 (.reg false [6] [⟨(some 7), none, false, .mov (.t 0)⟩,
 ⟨(some 8), none, false, .mov (.t 1)⟩,
 ⟨(some 9), none, false, .bin .geq (.t 7) (.t 8)⟩,
 ⟨(some 10), none, false, .mov (.t 9)⟩,
 ⟨(some 11), (some (10, true)), false, .mov (.t 0)⟩,
 ⟨(some 12), (some (10, true)), false, .mov (.t 2)⟩,
 ⟨(some 13), (some (10, true)), false, .bin .leq (.t 11) (.t 12)⟩,
 ⟨(some 14), none, false, .pick (.t 10) (.t 13) (.k (.d (.bool false)))⟩,
 ⟨(some 6), none, false, .mov (.t 14)⟩])
 .ret))
theorem c15 : (Go.Proofs.Try.f15).body.bind (comp prog.P (3, (Go.Proofs.Try.f15).ntmps) lv15) = some m15 := by kernel_rfl
theorem r15 : resOK prog.P (Go.Proofs.Try.f15).results.toList = true := by kernel_rfl

end Go.Pe.Try
