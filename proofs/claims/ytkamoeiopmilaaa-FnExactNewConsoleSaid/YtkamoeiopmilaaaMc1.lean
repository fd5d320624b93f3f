/-
The compact code of the functions that the law reaches, printed by gen.py, each with the proof that the machine's code is compiled to it.
-/
import Derived.Test.YtkamoeiopmilaaaPeC
import Derived.Test.YtkamoeiopmilaaaProg
import Derived.KernelRfl
set_option maxRecDepth 100000
namespace Go.Pe.Try
open Go.Pe

/-- the program; of its start-up memory nothing is asked. -/
noncomputable def prog : PG := ⟨Go.Proofs.Try.prog, fun _ => True, fun _ _ _ _ h => h⟩

theorem sz25 : sizeOfT prog.P 25 = some 5 := by kernel_rfl

theorem sz29 : sizeOfT prog.P 29 = some 8 := by kernel_rfl

/-- laws.FnExactNewConsole -/
def lv3 : List (Nat × List Nat) := [(0, [0]), (1, [0, 3, 4]), (2, [0, 3, 4, 5, 6]), (3, [0, 3, 4, 5, 29]), (4, [2]), (5, [0, 3, 4, 5, 7]), (6, [0, 3, 4, 5, 7]), (7, [0, 3, 4, 5, 7, 8]), (8, [0, 3, 4, 5, 7, 8]), (9, [0, 3, 4, 5, 7, 8, 37]), (10, [2]), (11, [0, 3, 4, 5, 7, 40]), (12, [2]), (13, [3, 4, 5, 7, 9, 10]), (14, [5, 7, 54]), (15, [2]), (16, [5, 7, 8]), (17, [7, 8]), (18, [7, 8, 59]), (19, [2]), (20, [62]), (21, [2]), (22, [2])]
def m3 : MC :=
  (.seq
 (.reg false [0] [⟨(some 2), none, false, .mov (.k (.d (.bool false)))⟩])
 (.seq
 (.reg false [0, 3, 4] [⟨(some 12), none, false, .mov (.t 0)⟩,
 ⟨(some 13), none, true, .call 8 [(.t 12)]⟩,
 ⟨(some 11), none, false, .mov (.t 13)⟩,
 ⟨(some 14), none, false, .ext (.t 11) 0⟩,
 ⟨(some 15), none, false, .ext (.t 11) 1⟩,
 ⟨(some 3), none, true, .alloc (.st (.cons (.st (.cons (.int .i64 0) (.cons (.sl true 4 .nil) (.cons (.int .i64 0) (.cons (.int .i64 0) (.cons (.sl true 1 .nil) .nil)))))) (.cons (.st (.cons (.str []) (.cons (.str []) (.cons (.int .i64 0) .nil)))) .nil)))⟩,
 ⟨none, none, true, .st 8 (.t 3) (.t 14)⟩,
 ⟨(some 4), none, false, .mov (.t 15)⟩])
 (.seq
 (.reg false [0, 3, 4, 5, 6] [⟨(some 17), none, false, .mov (.t 0)⟩,
 ⟨(some 18), none, true, .call 9 [(.t 17)]⟩,
 ⟨(some 16), none, false, .mov (.t 18)⟩,
 ⟨(some 19), none, false, .ext (.t 16) 0⟩,
 ⟨(some 20), none, false, .ext (.t 16) 1⟩,
 ⟨(some 5), none, true, .alloc (.st (.cons (.st (.cons (.int .i64 0) (.cons (.sl true 4 .nil) (.cons (.int .i64 0) (.cons (.int .i64 0) (.cons (.sl true 1 .nil) .nil)))))) (.cons (.st (.cons (.str []) (.cons (.str []) (.cons (.int .i64 0) .nil)))) .nil)))⟩,
 ⟨none, none, true, .st 8 (.t 5) (.t 19)⟩,
 ⟨(some 6), none, false, .mov (.t 20)⟩])
 (.seq
 (.seq
 (.reg false [0, 3, 4, 5, 29] [⟨(some 21), none, false, .ld (some 8) (.t 5)⟩,
 ⟨(some 22), none, false, .ld (some 8) (.t 3)⟩,
 ⟨(some 23), none, true, .call 10 [(.t 21), (.t 22)]⟩,
 ⟨(some 24), none, false, .un .not (.t 23)⟩,
 ⟨(some 25), none, false, .mov (.t 24)⟩,
 ⟨(some 26), (some (25, false)), false, .mov (.t 6)⟩,
 ⟨(some 27), (some (25, false)), false, .mov (.t 4)⟩,
 ⟨(some 28), (some (25, false)), false, .bb .neq (.t 26) (.t 27)⟩,
 ⟨(some 29), none, false, .pick (.t 25) (.k (.d (.bool true))) (.t 28)⟩])
 (.cond (.t 29)
 (.seq
 (.reg false [2] [⟨(some 2), none, false, .mov (.k (.d (.bool false)))⟩])
 .ret)
 .skip))
 (.seq
 (.reg false [0, 3, 4, 5, 7] [⟨(some 7), none, false, .mov (.k (.d (.int .i64 1)))⟩])
 (.seq
 (.reg false [0, 3, 4, 5, 7] [⟨(some 30), none, false, .ld (some 8) (.t 5)⟩,
 ⟨(some 31), none, false, .mov (.t 7)⟩,
 ⟨(some 32), none, true, .call 11 [(.t 30), (.t 31)]⟩,
 ⟨(some 7), none, false, .mov (.t 32)⟩])
 (.seq
 (.reg false [0, 3, 4, 5, 7, 8] [⟨(some 8), none, false, .mov (.k (.d (.int .i64 1)))⟩])
 (.seq
 (.reg false [0, 3, 4, 5, 7, 8] [⟨(some 33), none, false, .ld (some 8) (.t 5)⟩,
 ⟨(some 34), none, false, .mov (.t 8)⟩,
 ⟨(some 35), none, true, .call 12 [(.t 33), (.t 34)]⟩,
 ⟨(some 8), none, false, .mov (.t 35)⟩])
 (.seq
 (.seq
 (.reg false [0, 3, 4, 5, 7, 8, 37] [⟨(some 36), none, false, .mov (.t 8)⟩,
 ⟨(some 37), none, false, .bin .lss (.t 36) (.k (.d (.int .i64 0)))⟩])
 (.cond (.t 37)
 (.seq
 (.reg false [2] [⟨(some 2), none, false, .mov (.k (.d (.bool false)))⟩])
 .ret)
 .skip))
 (.seq
 (.seq
 (.reg false [0, 3, 4, 5, 7, 40] [⟨(some 38), none, false, .mov (.t 8)⟩,
 ⟨(some 39), none, false, .mov (.t 7)⟩,
 ⟨(some 40), none, false, .bin .neq (.t 38) (.t 39)⟩])
 (.cond (.t 40)
 (.seq
 (.reg false [2] [⟨(some 2), none, false, .mov (.k (.d (.bool false)))⟩])
 .ret)
 .skip))
 (.seq
 (.reg false [3, 4, 5, 7, 9, 10] [⟨(some 42), none, false, .mov (.t 0)⟩,
 ⟨(some 43), none, true, .call 9 [(.t 42)]⟩,
 ⟨(some 41), none, false, .mov (.t 43)⟩,
 ⟨(some 44), none, false, .ext (.t 41) 0⟩,
 ⟨(some 45), none, false, .ext (.t 41) 1⟩,
 ⟨(some 9), none, true, .alloc (.st (.cons (.st (.cons (.int .i64 0) (.cons (.sl true 4 .nil) (.cons (.int .i64 0) (.cons (.int .i64 0) (.cons (.sl true 1 .nil) .nil)))))) (.cons (.st (.cons (.str []) (.cons (.str []) (.cons (.int .i64 0) .nil)))) .nil)))⟩,
 ⟨none, none, true, .st 8 (.t 9) (.t 44)⟩,
 ⟨(some 10), none, false, .mov (.t 45)⟩])
 (.seq
 (.seq
 (.reg false [5, 7, 54] [⟨(some 46), none, false, .ld (some 8) (.t 9)⟩,
 ⟨(some 47), none, false, .ld (some 8) (.t 3)⟩,
 ⟨(some 48), none, true, .call 10 [(.t 46), (.t 47)]⟩,
 ⟨(some 49), none, false, .un .not (.t 48)⟩,
 ⟨(some 50), none, false, .mov (.t 49)⟩,
 ⟨(some 51), (some (50, false)), false, .mov (.t 10)⟩,
 ⟨(some 52), (some (50, false)), false, .mov (.t 4)⟩,
 ⟨(some 53), (some (50, false)), false, .bb .neq (.t 51) (.t 52)⟩,
 ⟨(some 54), none, false, .pick (.t 50) (.k (.d (.bool true))) (.t 53)⟩])
 (.cond (.t 54)
 (.seq
 (.reg false [2] [⟨(some 2), none, false, .mov (.k (.d (.bool false)))⟩])
 .ret)
 .skip))
 (.seq
 (.reg false [5, 7, 8] [⟨(some 8), none, false, .mov (.k (.d (.int .i64 1)))⟩])
 (.seq
 (.reg false [7, 8] [⟨(some 55), none, false, .ld (some 8) (.t 5)⟩,
 ⟨(some 56), none, false, .mov (.t 8)⟩,
 ⟨(some 57), none, true, .call 12 [(.t 55), (.t 56)]⟩,
 ⟨(some 8), none, false, .mov (.t 57)⟩])
 (.seq
 (.seq
 (.reg false [7, 8, 59] [⟨(some 58), none, false, .mov (.t 8)⟩,
 ⟨(some 59), none, false, .bin .lss (.t 58) (.k (.d (.int .i64 0)))⟩])
 (.cond (.t 59)
 (.seq
 (.reg false [2] [⟨(some 2), none, false, .mov (.k (.d (.bool false)))⟩])
 .ret)
 .skip))
 (.seq
 (.seq
 (.reg false [62] [⟨(some 60), none, false, .mov (.t 8)⟩,
 ⟨(some 61), none, false, .mov (.t 7)⟩,
 ⟨(some 62), none, false, .bin .neq (.t 60) (.t 61)⟩])
 (.cond (.t 62)
 (.seq
 (.reg false [2] [⟨(some 2), none, false, .mov (.k (.d (.bool false)))⟩])
 .ret)
 .skip))
 (.seq
 (.reg false [2] [⟨(some 2), none, false, .mov (.k (.d (.bool true)))⟩])
 .ret)))))))))))))))))
theorem c3 : (Go.Proofs.Try.f3).body.bind (comp prog.P (1, (Go.Proofs.Try.f3).ntmps) lv3) = some m3 := by kernel_rfl
theorem r3 : resOK prog.P (Go.Proofs.Try.f3).results.toList = true := by kernel_rfl

/-- spec.NewConsole -/
def lv8 : List (Nat × List Nat) := [(0, [0, 2]), (1, [2, 4, 5]), (2, [2, 4, 12]), (3, [2, 3]), (4, [2, 3])]
def m8 : MC :=
  (.seq
 (.reg false [0, 2] [⟨(some 2), none, true, .alloc (.st (.cons (.st (.cons (.int .i64 0) (.cons (.sl true 4 .nil) (.cons (.int .i64 0) (.cons (.int .i64 0) (.cons (.sl true 1 .nil) .nil)))))) (.cons (.st (.cons (.str []) (.cons (.str []) (.cons (.int .i64 0) .nil)))) .nil)))⟩,
 ⟨(some 3), none, false, .mov (.k (.d (.bool false)))⟩])
 (.seq
 (.reg false [2, 4, 5] [⟨(some 7), none, false, .mov (.t 0)⟩,
 ⟨(some 8), none, true, .call 28 [(.t 7)]⟩,
 ⟨(some 6), none, false, .mov (.t 8)⟩,
 ⟨(some 9), none, false, .ext (.t 6) 0⟩,
 ⟨(some 10), none, false, .ext (.t 6) 1⟩,
 ⟨(some 4), none, true, .alloc (.st (.cons (.int .i64 0) (.cons (.sl true 4 .nil) (.cons (.int .i64 0) (.cons (.int .i64 0) (.cons (.sl true 1 .nil) .nil))))))⟩,
 ⟨none, none, true, .st 5 (.t 4) (.t 9)⟩,
 ⟨(some 5), none, false, .mov (.t 10)⟩])
 (.seq
 (.seq
 (.reg false [2, 4, 12] [⟨(some 11), none, false, .mov (.t 5)⟩,
 ⟨(some 12), none, false, .un .not (.t 11)⟩])
 (.cond (.t 12)
 (.seq
 (.reg false [2, 3] [⟨(some 13), none, true, .bld (.cons (.st (.cons (.int .i64 0) (.cons (.sl true 4 .nil) (.cons (.int .i64 0) (.cons (.int .i64 0) (.cons (.sl true 1 .nil) .nil)))))) (.cons (.st (.cons (.str []) (.cons (.str []) (.cons (.int .i64 0) .nil)))) .nil)) []⟩,
 ⟨none, none, true, .st 8 (.t 2) (.t 13)⟩,
 ⟨(some 3), none, false, .mov (.k (.d (.bool false)))⟩])
 .ret)
 .skip))
 (.seq
 (.reg false [2, 3] [⟨(some 14), none, false, .ld (some 5) (.t 4)⟩,
 ⟨(some 15), none, true, .bld (.cons (.st (.cons (.int .i64 0) (.cons (.sl true 4 .nil) (.cons (.int .i64 0) (.cons (.int .i64 0) (.cons (.sl true 1 .nil) .nil)))))) (.cons (.st (.cons (.str []) (.cons (.str []) (.cons (.int .i64 0) .nil)))) .nil)) [(0, (.t 14))]⟩,
 ⟨none, none, true, .st 8 (.t 2) (.t 15)⟩,
 ⟨(some 3), none, false, .mov (.k (.d (.bool true)))⟩])
 .ret))))
theorem c8 : (Go.Proofs.Try.f8).body.bind (comp prog.P (1, (Go.Proofs.Try.f8).ntmps) lv8) = some m8 := by kernel_rfl
theorem r8 : resOK prog.P (Go.Proofs.Try.f8).results.toList = true := by kernel_rfl

/-- impl.NewConsole -/
def lv9 : List (Nat × List Nat) := [(0, [0, 2]), (1, [2, 4, 5]), (2, [2, 3])]
def m9 : MC :=
  (.seq
 (.reg false [0, 2] [⟨(some 2), none, true, .alloc (.st (.cons (.st (.cons (.int .i64 0) (.cons (.sl true 4 .nil) (.cons (.int .i64 0) (.cons (.int .i64 0) (.cons (.sl true 1 .nil) .nil)))))) (.cons (.st (.cons (.str []) (.cons (.str []) (.cons (.int .i64 0) .nil)))) .nil)))⟩,
 ⟨(some 3), none, false, .mov (.k (.d (.bool false)))⟩])
 (.seq
 (.reg false [2, 4, 5] [⟨(some 7), none, false, .mov (.t 0)⟩,
 ⟨(some 8), none, true, .call 29 [(.t 7)]⟩,
 ⟨(some 6), none, false, .mov (.t 8)⟩,
 ⟨(some 9), none, false, .ext (.t 6) 0⟩,
 ⟨(some 10), none, false, .ext (.t 6) 1⟩,
 ⟨(some 4), none, true, .alloc (.st (.cons (.int .i64 0) (.cons (.sl true 4 .nil) (.cons (.int .i64 0) (.cons (.int .i64 0) (.cons (.sl true 1 .nil) .nil))))))⟩,
 ⟨none, none, true, .st 5 (.t 4) (.t 9)⟩,
 ⟨(some 5), none, false, .mov (.t 10)⟩])
 (.seq
 (.reg false [2, 3] [⟨(some 11), none, false, .ld (some 5) (.t 4)⟩,
 ⟨(some 12), none, true, .bld (.cons (.st (.cons (.int .i64 0) (.cons (.sl true 4 .nil) (.cons (.int .i64 0) (.cons (.int .i64 0) (.cons (.sl true 1 .nil) .nil)))))) (.cons (.st (.cons (.str []) (.cons (.str []) (.cons (.int .i64 0) .nil)))) .nil)) [(0, (.t 11))]⟩,
 ⟨(some 13), none, false, .mov (.t 5)⟩,
 ⟨none, none, true, .st 8 (.t 2) (.t 12)⟩,
 ⟨(some 3), none, false, .mov (.t 13)⟩])
 .ret)))
theorem c9 : (Go.Proofs.Try.f9).body.bind (comp prog.P (1, (Go.Proofs.Try.f9).ntmps) lv9) = some m9 := by kernel_rfl
theorem r9 : resOK prog.P (Go.Proofs.Try.f9).results.toList = true := by kernel_rfl

/-- laws.eqConsole -/
def lv10 : List (Nat × List Nat) := [(0, [2, 3]), (1, [2, 3, 10]), (2, [4]), (3, [16]), (4, [4]), (5, [4])]
def m10 : MC :=
  (.seq
 (.reg false [2, 3] [⟨(some 2), none, true, .box (.t 0)⟩,
 ⟨(some 3), none, true, .box (.t 1)⟩,
 ⟨(some 4), none, false, .mov (.k (.d (.bool false)))⟩])
 (.seq
 (.seq
 (.reg false [2, 3, 10] [⟨(some 5), none, false, .fa 0 0 (.t 2)⟩,
 ⟨(some 6), none, false, .ld (some 5) (.t 5)⟩,
 ⟨(some 7), none, false, .fa 0 0 (.t 3)⟩,
 ⟨(some 8), none, false, .ld (some 5) (.t 7)⟩,
 ⟨(some 9), none, true, .call 30 [(.t 6), (.t 8)]⟩,
 ⟨(some 10), none, false, .un .not (.t 9)⟩])
 (.cond (.t 10)
 (.seq
 (.reg false [4] [⟨(some 4), none, false, .mov (.k (.d (.bool false)))⟩])
 .ret)
 .skip))
 (.seq
 (.seq
 (.reg false [16] [⟨(some 11), none, false, .fa 1 5 (.t 2)⟩,
 ⟨(some 12), none, false, .ld (some 3) (.t 11)⟩,
 ⟨(some 13), none, false, .fa 1 5 (.t 3)⟩,
 ⟨(some 14), none, false, .ld (some 3) (.t 13)⟩,
 ⟨(some 15), none, true, .call 31 [(.t 12), (.t 14)]⟩,
 ⟨(some 16), none, false, .un .not (.t 15)⟩])
 (.cond (.t 16)
 (.seq
 (.reg false [4] [⟨(some 4), none, false, .mov (.k (.d (.bool false)))⟩])
 .ret)
 .skip))
 (.seq
 (.reg false [4] [⟨(some 4), none, false, .mov (.k (.d (.bool true)))⟩])
 .ret))))
theorem c10 : (Go.Proofs.Try.f10).body.bind (comp prog.P (2, (Go.Proofs.Try.f10).ntmps) lv10) = some m10 := by kernel_rfl
theorem r10 : resOK prog.P (Go.Proofs.Try.f10).results.toList = true := by kernel_rfl

/-- laws.markConsole -/
def lv11 : List (Nat × List Nat) := [(0, [0, 1, 2]), (1, [0, 1]), (2, [0, 4])]
def m11 : MC :=
  (.seq
 (.reg false [0, 1, 2] [⟨(some 2), none, true, .box (.t 0)⟩,
 ⟨(some 4), none, false, .mov (.k (.d (.int .i64 0)))⟩])
 (.seq
 (.reg false [0, 1] [⟨(some 5), none, false, .fa 0 0 (.t 2)⟩,
 ⟨(some 6), none, false, .ld (some 5) (.t 5)⟩,
 ⟨(some 7), none, false, .mov (.t 1)⟩,
 ⟨(some 8), none, true, .call 32 [(.t 6), (.t 7)]⟩,
 ⟨(some 1), none, false, .mov (.t 8)⟩])
 (.seq
 (.reg false [0, 4] [⟨(some 9), none, false, .mov (.t 1)⟩,
 ⟨(some 4), none, false, .mov (.t 9)⟩])
 .ret)))
theorem c11 : (Go.Proofs.Try.f11).body.bind (comp prog.P (1, (Go.Proofs.Try.f11).ntmps) lv11) = some m11 := by kernel_rfl
theorem r11 : resOK prog.P (Go.Proofs.Try.f11).results.toList = true := by kernel_rfl

/-- laws.heldConsole -/
def lv12 : List (Nat × List Nat) := [(0, [1, 2]), (1, [1]), (2, [1, 10]), (3, [4]), (4, [4])]
def m12 : MC :=
  (.seq
 (.reg false [1, 2] [⟨(some 2), none, true, .box (.t 0)⟩,
 ⟨(some 4), none, false, .mov (.k (.d (.int .i64 0)))⟩])
 (.seq
 (.reg false [1] [⟨(some 5), none, false, .fa 0 0 (.t 2)⟩,
 ⟨(some 6), none, false, .ld (some 5) (.t 5)⟩,
 ⟨(some 7), none, false, .mov (.t 1)⟩,
 ⟨(some 8), none, true, .call 33 [(.t 6), (.t 7)]⟩,
 ⟨(some 1), none, false, .mov (.t 8)⟩])
 (.seq
 (.seq
 (.reg false [1, 10] [⟨(some 9), none, false, .mov (.t 1)⟩,
 ⟨(some 10), none, false, .bin .lss (.t 9) (.k (.d (.int .i64 0)))⟩])
 (.cond (.t 10)
 (.seq
 (.reg false [4] [⟨(some 4), none, false, .mov (.k (.d (.int .i64 (-1))))⟩])
 .ret)
 .skip))
 (.seq
 (.reg false [4] [⟨(some 11), none, false, .mov (.t 1)⟩,
 ⟨(some 4), none, false, .mov (.t 11)⟩])
 .ret))))
theorem c12 : (Go.Proofs.Try.f12).body.bind (comp prog.P (1, (Go.Proofs.Try.f12).ntmps) lv12) = some m12 := by kernel_rfl
theorem r12 : resOK prog.P (Go.Proofs.Try.f12).results.toList = true := by kernel_rfl

/-- spec.NewOffice -/
def lv28 : List (Nat × List Nat) := [(0, [0, 2]), (1, [0, 2, 6]), (2, [2, 3]), (3, [2, 3])]
def m28 : MC :=
  (.seq
 (.reg false [0, 2] [⟨(some 2), none, true, .alloc (.st (.cons (.int .i64 0) (.cons (.sl true 4 .nil) (.cons (.int .i64 0) (.cons (.int .i64 0) (.cons (.sl true 1 .nil) .nil))))))⟩,
 ⟨(some 3), none, false, .mov (.k (.d (.bool false)))⟩])
 (.seq
 (.seq
 (.reg false [0, 2, 6] [⟨(some 4), none, false, .mov (.t 0)⟩,
 ⟨(some 5), none, true, .call 43 [(.t 4)]⟩,
 ⟨(some 6), none, false, .un .not (.t 5)⟩])
 (.cond (.t 6)
 (.seq
 (.reg false [2, 3] [⟨(some 7), none, true, .bld (.cons (.int .i64 0) (.cons (.sl true 4 .nil) (.cons (.int .i64 0) (.cons (.int .i64 0) (.cons (.sl true 1 .nil) .nil))))) []⟩,
 ⟨none, none, true, .st 5 (.t 2) (.t 7)⟩,
 ⟨(some 3), none, false, .mov (.k (.d (.bool false)))⟩])
 .ret)
 .skip))
 (.seq
 (.reg false [2, 3] [⟨(some 8), none, false, .mov (.t 0)⟩,
 ⟨(some 9), none, true, .bs 4 0 (.st (.cons (.int .i64 0) (.cons (.int .i64 0) (.cons (.int .i64 0) (.cons (.sl true 1 .nil) .nil))))) []⟩,
 ⟨(some 10), none, true, .bs 1 0 (.str []) []⟩,
 ⟨(some 11), none, true, .bld (.cons (.int .i64 0) (.cons (.sl true 4 .nil) (.cons (.int .i64 0) (.cons (.int .i64 0) (.cons (.sl true 1 .nil) .nil))))) [(0, (.t 8)), (1, (.t 9)), (4, (.t 10))]⟩,
 ⟨none, none, true, .st 5 (.t 2) (.t 11)⟩,
 ⟨(some 3), none, false, .mov (.k (.d (.bool true)))⟩])
 .ret)))
theorem c28 : (Go.Proofs.Try.f28).body.bind (comp prog.P (1, (Go.Proofs.Try.f28).ntmps) lv28) = some m28 := by kernel_rfl
theorem r28 : resOK prog.P (Go.Proofs.Try.f28).results.toList = true := by kernel_rfl

/-- impl.NewOffice -/
def lv29 : List (Nat × List Nat) := [(0, [0, 2]), (1, [0, 2, 6]), (2, [2, 3]), (3, [2, 3])]
def m29 : MC :=
  (.seq
 (.reg false [0, 2] [⟨(some 2), none, true, .alloc (.st (.cons (.int .i64 0) (.cons (.sl true 4 .nil) (.cons (.int .i64 0) (.cons (.int .i64 0) (.cons (.sl true 1 .nil) .nil))))))⟩,
 ⟨(some 3), none, false, .mov (.k (.d (.bool false)))⟩])
 (.seq
 (.seq
 (.reg false [0, 2, 6] [⟨(some 4), none, false, .mov (.t 0)⟩,
 ⟨(some 5), none, true, .call 54 [(.t 4)]⟩,
 ⟨(some 6), none, false, .un .not (.t 5)⟩])
 (.cond (.t 6)
 (.seq
 (.reg false [2, 3] [⟨(some 7), none, true, .bld (.cons (.int .i64 0) (.cons (.sl true 4 .nil) (.cons (.int .i64 0) (.cons (.int .i64 0) (.cons (.sl true 1 .nil) .nil))))) []⟩,
 ⟨none, none, true, .st 5 (.t 2) (.t 7)⟩,
 ⟨(some 3), none, false, .mov (.k (.d (.bool false)))⟩])
 .ret)
 .skip))
 (.seq
 (.reg false [2, 3] [⟨(some 8), none, false, .mov (.t 0)⟩,
 ⟨(some 9), none, true, .bld (.cons (.int .i64 0) (.cons (.sl true 4 .nil) (.cons (.int .i64 0) (.cons (.int .i64 0) (.cons (.sl true 1 .nil) .nil))))) [(0, (.t 8))]⟩,
 ⟨none, none, true, .st 5 (.t 2) (.t 9)⟩,
 ⟨(some 3), none, false, .mov (.k (.d (.bool true)))⟩])
 .ret)))
theorem c29 : (Go.Proofs.Try.f29).body.bind (comp prog.P (1, (Go.Proofs.Try.f29).ntmps) lv29) = some m29 := by kernel_rfl
theorem r29 : resOK prog.P (Go.Proofs.Try.f29).results.toList = true := by kernel_rfl

/-- laws.eqOffice -/
def lv30 : List (Nat × List Nat) := [(0, [2, 3]), (1, [2, 3, 9]), (2, [4]), (3, [2, 3, 15]), (4, [4]), (5, [2, 3, 20]), (6, [4]), (7, [2, 3, 25]), (8, [4]), (9, [31]), (10, [4]), (11, [4])]
def m30 : MC :=
  (.seq
 (.reg false [2, 3] [⟨(some 2), none, true, .box (.t 0)⟩,
 ⟨(some 3), none, true, .box (.t 1)⟩,
 ⟨(some 4), none, false, .mov (.k (.d (.bool false)))⟩])
 (.seq
 (.seq
 (.reg false [2, 3, 9] [⟨(some 5), none, false, .fa 0 0 (.t 2)⟩,
 ⟨(some 6), none, false, .ld none (.t 5)⟩,
 ⟨(some 7), none, false, .fa 0 0 (.t 3)⟩,
 ⟨(some 8), none, false, .ld none (.t 7)⟩,
 ⟨(some 9), none, false, .bin .neq (.t 6) (.t 8)⟩])
 (.cond (.t 9)
 (.seq
 (.reg false [4] [⟨(some 4), none, false, .mov (.k (.d (.bool false)))⟩])
 .ret)
 .skip))
 (.seq
 (.seq
 (.reg false [2, 3, 15] [⟨(some 10), none, false, .fa 1 1 (.t 2)⟩,
 ⟨(some 11), none, false, .ld none (.t 10)⟩,
 ⟨(some 12), none, false, .fa 1 1 (.t 3)⟩,
 ⟨(some 13), none, false, .ld none (.t 12)⟩,
 ⟨(some 14), none, true, .call 55 [(.t 11), (.t 13)]⟩,
 ⟨(some 15), none, false, .un .not (.t 14)⟩])
 (.cond (.t 15)
 (.seq
 (.reg false [4] [⟨(some 4), none, false, .mov (.k (.d (.bool false)))⟩])
 .ret)
 .skip))
 (.seq
 (.seq
 (.reg false [2, 3, 20] [⟨(some 16), none, false, .fa 2 2 (.t 2)⟩,
 ⟨(some 17), none, false, .ld none (.t 16)⟩,
 ⟨(some 18), none, false, .fa 2 2 (.t 3)⟩,
 ⟨(some 19), none, false, .ld none (.t 18)⟩,
 ⟨(some 20), none, false, .bin .neq (.t 17) (.t 19)⟩])
 (.cond (.t 20)
 (.seq
 (.reg false [4] [⟨(some 4), none, false, .mov (.k (.d (.bool false)))⟩])
 .ret)
 .skip))
 (.seq
 (.seq
 (.reg false [2, 3, 25] [⟨(some 21), none, false, .fa 3 3 (.t 2)⟩,
 ⟨(some 22), none, false, .ld none (.t 21)⟩,
 ⟨(some 23), none, false, .fa 3 3 (.t 3)⟩,
 ⟨(some 24), none, false, .ld none (.t 23)⟩,
 ⟨(some 25), none, false, .bin .neq (.t 22) (.t 24)⟩])
 (.cond (.t 25)
 (.seq
 (.reg false [4] [⟨(some 4), none, false, .mov (.k (.d (.bool false)))⟩])
 .ret)
 .skip))
 (.seq
 (.seq
 (.reg false [31] [⟨(some 26), none, false, .fa 4 4 (.t 2)⟩,
 ⟨(some 27), none, false, .ld none (.t 26)⟩,
 ⟨(some 28), none, false, .fa 4 4 (.t 3)⟩,
 ⟨(some 29), none, false, .ld none (.t 28)⟩,
 ⟨(some 30), none, true, .call 56 [(.t 27), (.t 29)]⟩,
 ⟨(some 31), none, false, .un .not (.t 30)⟩])
 (.cond (.t 31)
 (.seq
 (.reg false [4] [⟨(some 4), none, false, .mov (.k (.d (.bool false)))⟩])
 .ret)
 .skip))
 (.seq
 (.reg false [4] [⟨(some 4), none, false, .mov (.k (.d (.bool true)))⟩])
 .ret)))))))
theorem c30 : (Go.Proofs.Try.f30).body.bind (comp prog.P (2, (Go.Proofs.Try.f30).ntmps) lv30) = some m30 := by kernel_rfl
theorem r30 : resOK prog.P (Go.Proofs.Try.f30).results.toList = true := by kernel_rfl

/-- laws.eqLog -/
def lv31 : List (Nat × List Nat) := [(0, [2, 3]), (1, [2, 3, 9]), (2, [4]), (3, [2, 3, 14]), (4, [4]), (5, [19]), (6, [4]), (7, [4])]
def m31 : MC :=
  (.seq
 (.reg false [2, 3] [⟨(some 2), none, true, .box (.t 0)⟩,
 ⟨(some 3), none, true, .box (.t 1)⟩,
 ⟨(some 4), none, false, .mov (.k (.d (.bool false)))⟩])
 (.seq
 (.seq
 (.reg false [2, 3, 9] [⟨(some 5), none, false, .fa 0 0 (.t 2)⟩,
 ⟨(some 6), none, false, .ld none (.t 5)⟩,
 ⟨(some 7), none, false, .fa 0 0 (.t 3)⟩,
 ⟨(some 8), none, false, .ld none (.t 7)⟩,
 ⟨(some 9), none, false, .bin .neq (.t 6) (.t 8)⟩])
 (.cond (.t 9)
 (.seq
 (.reg false [4] [⟨(some 4), none, false, .mov (.k (.d (.bool false)))⟩])
 .ret)
 .skip))
 (.seq
 (.seq
 (.reg false [2, 3, 14] [⟨(some 10), none, false, .fa 1 1 (.t 2)⟩,
 ⟨(some 11), none, false, .ld none (.t 10)⟩,
 ⟨(some 12), none, false, .fa 1 1 (.t 3)⟩,
 ⟨(some 13), none, false, .ld none (.t 12)⟩,
 ⟨(some 14), none, false, .bin .neq (.t 11) (.t 13)⟩])
 (.cond (.t 14)
 (.seq
 (.reg false [4] [⟨(some 4), none, false, .mov (.k (.d (.bool false)))⟩])
 .ret)
 .skip))
 (.seq
 (.seq
 (.reg false [19] [⟨(some 15), none, false, .fa 2 2 (.t 2)⟩,
 ⟨(some 16), none, false, .ld none (.t 15)⟩,
 ⟨(some 17), none, false, .fa 2 2 (.t 3)⟩,
 ⟨(some 18), none, false, .ld none (.t 17)⟩,
 ⟨(some 19), none, false, .bin .neq (.t 16) (.t 18)⟩])
 (.cond (.t 19)
 (.seq
 (.reg false [4] [⟨(some 4), none, false, .mov (.k (.d (.bool false)))⟩])
 .ret)
 .skip))
 (.seq
 (.reg false [4] [⟨(some 4), none, false, .mov (.k (.d (.bool true)))⟩])
 .ret)))))
theorem c31 : (Go.Proofs.Try.f31).body.bind (comp prog.P (2, (Go.Proofs.Try.f31).ntmps) lv31) = some m31 := by kernel_rfl
theorem r31 : resOK prog.P (Go.Proofs.Try.f31).results.toList = true := by kernel_rfl

/-- laws.markOffice -/
def lv32 : List (Nat × List Nat) := [(0, [0, 1, 2]), (1, [0, 1, 2]), (2, [0, 1]), (3, [0, 4])]
def m32 : MC :=
  (.seq
 (.reg false [0, 1, 2] [⟨(some 2), none, true, .box (.t 0)⟩,
 ⟨(some 4), none, false, .mov (.k (.d (.int .i64 0)))⟩])
 (.seq
 (.reg false [0, 1, 2] [⟨(some 5), none, false, .fa 1 1 (.t 2)⟩,
 ⟨(some 6), none, false, .ld none (.t 5)⟩,
 ⟨(some 7), none, false, .mov (.t 1)⟩,
 ⟨(some 8), none, true, .call 57 [(.t 6), (.t 7)]⟩,
 ⟨(some 1), none, false, .mov (.t 8)⟩])
 (.seq
 (.reg false [0, 1] [⟨(some 9), none, false, .fa 4 4 (.t 2)⟩,
 ⟨(some 10), none, false, .ld none (.t 9)⟩,
 ⟨(some 11), none, false, .mov (.t 1)⟩,
 ⟨(some 12), none, true, .call 58 [(.t 10), (.t 11)]⟩,
 ⟨(some 1), none, false, .mov (.t 12)⟩])
 (.seq
 (.reg false [0, 4] [⟨(some 13), none, false, .mov (.t 1)⟩,
 ⟨(some 4), none, false, .mov (.t 13)⟩])
 .ret))))
theorem c32 : (Go.Proofs.Try.f32).body.bind (comp prog.P (1, (Go.Proofs.Try.f32).ntmps) lv32) = some m32 := by kernel_rfl
theorem r32 : resOK prog.P (Go.Proofs.Try.f32).results.toList = true := by kernel_rfl

/-- laws.heldOffice -/
def lv33 : List (Nat × List Nat) := [(0, [1, 2]), (1, [1, 2]), (2, [1, 2, 10]), (3, [4]), (4, [1]), (5, [1, 16]), (6, [4]), (7, [4])]
def m33 : MC :=
  (.seq
 (.reg false [1, 2] [⟨(some 2), none, true, .box (.t 0)⟩,
 ⟨(some 4), none, false, .mov (.k (.d (.int .i64 0)))⟩])
 (.seq
 (.reg false [1, 2] [⟨(some 5), none, false, .fa 1 1 (.t 2)⟩,
 ⟨(some 6), none, false, .ld none (.t 5)⟩,
 ⟨(some 7), none, false, .mov (.t 1)⟩,
 ⟨(some 8), none, true, .call 59 [(.t 6), (.t 7)]⟩,
 ⟨(some 1), none, false, .mov (.t 8)⟩])
 (.seq
 (.seq
 (.reg false [1, 2, 10] [⟨(some 9), none, false, .mov (.t 1)⟩,
 ⟨(some 10), none, false, .bin .lss (.t 9) (.k (.d (.int .i64 0)))⟩])
 (.cond (.t 10)
 (.seq
 (.reg false [4] [⟨(some 4), none, false, .mov (.k (.d (.int .i64 (-1))))⟩])
 .ret)
 .skip))
 (.seq
 (.reg false [1] [⟨(some 11), none, false, .fa 4 4 (.t 2)⟩,
 ⟨(some 12), none, false, .ld none (.t 11)⟩,
 ⟨(some 13), none, false, .mov (.t 1)⟩,
 ⟨(some 14), none, true, .call 60 [(.t 12), (.t 13)]⟩,
 ⟨(some 1), none, false, .mov (.t 14)⟩])
 (.seq
 (.seq
 (.reg false [1, 16] [⟨(some 15), none, false, .mov (.t 1)⟩,
 ⟨(some 16), none, false, .bin .lss (.t 15) (.k (.d (.int .i64 0)))⟩])
 (.cond (.t 16)
 (.seq
 (.reg false [4] [⟨(some 4), none, false, .mov (.k (.d (.int .i64 (-1))))⟩])
 .ret)
 .skip))
 (.seq
 (.reg false [4] [⟨(some 17), none, false, .mov (.t 1)⟩,
 ⟨(some 4), none, false, .mov (.t 17)⟩])
 .ret))))))
theorem c33 : (Go.Proofs.Try.f33).body.bind (comp prog.P (1, (Go.Proofs.Try.f33).ntmps) lv33) = some m33 := by kernel_rfl
theorem r33 : resOK prog.P (Go.Proofs.Try.f33).results.toList = true := by kernel_rfl

/-- spec.l2Day -/
def lv43 : List (Nat × List Nat) := [(0, [0]), (1, [2])]
def m43 : MC :=
  (.seq
 (.reg false [0] [⟨(some 2), none, false, .mov (.k (.d (.bool false)))⟩])
 (.seq
 (.reg false [2] [⟨(some 3), none, false, .mov (.t 0)⟩,
 ⟨(some 4), none, true, .call 71 [(.t 3), (.k (.d (.int .i64 0))), (.k (.d (.int .i64 20000)))]⟩,
 ⟨(some 2), none, false, .mov (.t 4)⟩])
 .ret))
theorem c43 : (Go.Proofs.Try.f43).body.bind (comp prog.P (1, (Go.Proofs.Try.f43).ntmps) lv43) = some m43 := by kernel_rfl
theorem r43 : resOK prog.P (Go.Proofs.Try.f43).results.toList = true := by kernel_rfl

/-- impl.isDay -/
def lv54 : List (Nat × List Nat) := [(0, [0]), (1, [2])]
def m54 : MC :=
  (.seq
 (.reg false [0] [⟨(some 2), none, false, .mov (.k (.d (.bool false)))⟩])
 (.seq
 (.reg false [2] [⟨(some 3), none, false, .mov (.t 0)⟩,
 ⟨(some 4), none, true, .call 64 [(.t 3), (.k (.d (.int .i64 0))), (.k (.d (.int .i64 20000)))]⟩,
 ⟨(some 2), none, false, .mov (.t 4)⟩])
 .ret))
theorem c54 : (Go.Proofs.Try.f54).body.bind (comp prog.P (1, (Go.Proofs.Try.f54).ntmps) lv54) = some m54 := by kernel_rfl
theorem r54 : resOK prog.P (Go.Proofs.Try.f54).results.toList = true := by kernel_rfl

/-- laws.eqCaseS -/
def lv55 : List (Nat × List Nat) := [(0, [0, 1]), (1, [0, 1, 10]), (2, [4]), (3, [0, 1, 5]), (4, [0, 1, 5, 14]), (5, [0, 1, 5]), (6, [0, 1, 5, 26]), (7, [4]), (8, [4])]
def m55 : MC :=
  (.seq
 (.reg false [0, 1] [⟨(some 4), none, false, .mov (.k (.d (.bool false)))⟩])
 (.seq
 (.seq
 (.reg false [0, 1, 10] [⟨(some 6), none, false, .mov (.t 0)⟩,
 ⟨(some 7), none, false, .len false (.t 6)⟩,
 ⟨(some 8), none, false, .mov (.t 1)⟩,
 ⟨(some 9), none, false, .len false (.t 8)⟩,
 ⟨(some 10), none, false, .bin .neq (.t 7) (.t 9)⟩])
 (.cond (.t 10)
 (.seq
 (.reg false [4] [⟨(some 4), none, false, .mov (.k (.d (.bool false)))⟩])
 .ret)
 .skip))
 (.seq
 (.seq
 (.reg false [0, 1, 5] [⟨(some 5), none, false, .mov (.k (.d (.int .i64 0)))⟩])
 (.block 0
 (.loop
 (.seq
 (.seq
 (.reg false [0, 1, 5, 14] [⟨(some 11), none, false, .mov (.t 5)⟩,
 ⟨(some 12), none, false, .mov (.t 0)⟩,
 ⟨(some 13), none, false, .len false (.t 12)⟩,
 ⟨(some 14), none, false, .bin .lss (.t 11) (.t 13)⟩])
 (.cond (.t 14)
 .skip
 (.exit 0)))
 (.seq
 (.block 1
 (.seq
 (.reg true [0, 1, 5, 26] [⟨(some 17), none, false, .mov (.t 0)⟩,
 ⟨(some 18), none, false, .mov (.t 5)⟩,
 ⟨(some 19), none, false, .ia 4 (.t 17) (.t 18)⟩,
 ⟨(some 20), none, false, .ld (some 4) (.t 19)⟩,
 ⟨(some 21), none, false, .mov (.t 1)⟩,
 ⟨(some 22), none, false, .mov (.t 5)⟩,
 ⟨(some 23), none, false, .ia 4 (.t 21) (.t 22)⟩,
 ⟨(some 24), none, false, .ld (some 4) (.t 23)⟩,
 ⟨(some 25), none, false, .callP 76 [(.t 20), (.t 24)]⟩,
 ⟨(some 26), none, false, .un .not (.t 25)⟩])
 (.cond (.t 26)
 (.seq
 (.reg false [4] [⟨(some 4), none, false, .mov (.k (.d (.bool false)))⟩])
 .ret)
 .skip)))
 (.reg false [0, 1, 5] [⟨(some 15), none, false, .mov (.t 5)⟩,
 ⟨(some 16), none, false, .bin .add (.t 15) (.k (.d (.int .i64 1)))⟩,
 ⟨(some 5), none, false, .mov (.t 16)⟩]))))))
 (.seq
 (.reg false [4] [⟨(some 4), none, false, .mov (.k (.d (.bool true)))⟩])
 .ret))))
theorem c55 : (Go.Proofs.Try.f55).body.bind (comp prog.P (2, (Go.Proofs.Try.f55).ntmps) lv55) = some m55 := by kernel_rfl
theorem r55 : resOK prog.P (Go.Proofs.Try.f55).results.toList = true := by kernel_rfl

/-- laws.eqStringS -/
def lv56 : List (Nat × List Nat) := [(0, [0, 1]), (1, [0, 1, 10]), (2, [4]), (3, [0, 1, 5]), (4, [0, 1, 5, 14]), (5, [0, 1, 5]), (6, [0, 1, 5, 25]), (7, [4]), (8, [4])]
def m56 : MC :=
  (.seq
 (.reg false [0, 1] [⟨(some 4), none, false, .mov (.k (.d (.bool false)))⟩])
 (.seq
 (.seq
 (.reg false [0, 1, 10] [⟨(some 6), none, false, .mov (.t 0)⟩,
 ⟨(some 7), none, false, .len false (.t 6)⟩,
 ⟨(some 8), none, false, .mov (.t 1)⟩,
 ⟨(some 9), none, false, .len false (.t 8)⟩,
 ⟨(some 10), none, false, .bin .neq (.t 7) (.t 9)⟩])
 (.cond (.t 10)
 (.seq
 (.reg false [4] [⟨(some 4), none, false, .mov (.k (.d (.bool false)))⟩])
 .ret)
 .skip))
 (.seq
 (.seq
 (.reg false [0, 1, 5] [⟨(some 5), none, false, .mov (.k (.d (.int .i64 0)))⟩])
 (.block 0
 (.loop
 (.seq
 (.seq
 (.reg false [0, 1, 5, 14] [⟨(some 11), none, false, .mov (.t 5)⟩,
 ⟨(some 12), none, false, .mov (.t 0)⟩,
 ⟨(some 13), none, false, .len false (.t 12)⟩,
 ⟨(some 14), none, false, .bin .lss (.t 11) (.t 13)⟩])
 (.cond (.t 14)
 .skip
 (.exit 0)))
 (.seq
 (.block 1
 (.seq
 (.reg true [0, 1, 5, 25] [⟨(some 17), none, false, .mov (.t 0)⟩,
 ⟨(some 18), none, false, .mov (.t 5)⟩,
 ⟨(some 19), none, false, .ia 1 (.t 17) (.t 18)⟩,
 ⟨(some 20), none, false, .ld none (.t 19)⟩,
 ⟨(some 21), none, false, .mov (.t 1)⟩,
 ⟨(some 22), none, false, .mov (.t 5)⟩,
 ⟨(some 23), none, false, .ia 1 (.t 21) (.t 22)⟩,
 ⟨(some 24), none, false, .ld none (.t 23)⟩,
 ⟨(some 25), none, false, .bin .neq (.t 20) (.t 24)⟩])
 (.cond (.t 25)
 (.seq
 (.reg false [4] [⟨(some 4), none, false, .mov (.k (.d (.bool false)))⟩])
 .ret)
 .skip)))
 (.reg false [0, 1, 5] [⟨(some 15), none, false, .mov (.t 5)⟩,
 ⟨(some 16), none, false, .bin .add (.t 15) (.k (.d (.int .i64 1)))⟩,
 ⟨(some 5), none, false, .mov (.t 16)⟩]))))))
 (.seq
 (.reg false [4] [⟨(some 4), none, false, .mov (.k (.d (.bool true)))⟩])
 .ret))))
theorem c56 : (Go.Proofs.Try.f56).body.bind (comp prog.P (2, (Go.Proofs.Try.f56).ntmps) lv56) = some m56 := by kernel_rfl
theorem r56 : resOK prog.P (Go.Proofs.Try.f56).results.toList = true := by kernel_rfl

/-- laws.markCaseS -/
def lv57 : List (Nat × List Nat) := [(0, [0, 1]), (1, [0, 1, 5]), (2, [0, 1, 5, 9]), (3, [0, 1, 5]), (4, [0, 1, 5]), (5, [0, 1, 5]), (6, [0, 1, 5]), (7, [0, 1, 5]), (8, [0, 1, 5]), (9, [0, 1, 5]), (10, [0, 1, 5]), (11, [0, 4])]
def m57 : MC :=
  (.seq
 (.reg false [0, 1] [⟨(some 4), none, false, .mov (.k (.d (.int .i64 0)))⟩])
 (.seq
 (.seq
 (.reg false [0, 1, 5] [⟨(some 5), none, false, .mov (.k (.d (.int .i64 0)))⟩])
 (.block 0
 (.loop
 (.seq
 (.seq
 (.reg false [0, 1, 5, 9] [⟨(some 6), none, false, .mov (.t 5)⟩,
 ⟨(some 7), none, false, .mov (.t 0)⟩,
 ⟨(some 8), none, false, .len false (.t 7)⟩,
 ⟨(some 9), none, false, .bin .lss (.t 6) (.t 8)⟩])
 (.cond (.t 9)
 .skip
 (.exit 0)))
 (.seq
 (.block 1
 (.seq
 (.reg false [0, 1, 5] [⟨(some 12), none, false, .mov (.t 0)⟩,
 ⟨(some 13), none, false, .mov (.t 5)⟩,
 ⟨(some 14), none, false, .mov (.t 1)⟩,
 ⟨(some 15), none, false, .ia 4 (.t 12) (.t 13)⟩,
 ⟨(some 16), none, false, .fa 0 0 (.t 15)⟩,
 ⟨none, none, true, .st 1 (.t 16) (.t 14)⟩])
 (.seq
 (.reg false [0, 1, 5] [⟨(some 17), none, false, .mov (.t 1)⟩,
 ⟨(some 18), none, false, .bin .add (.t 17) (.k (.d (.int .i64 1)))⟩,
 ⟨(some 1), none, false, .mov (.t 18)⟩])
 (.seq
 (.reg false [0, 1, 5] [⟨(some 19), none, false, .mov (.t 0)⟩,
 ⟨(some 20), none, false, .mov (.t 5)⟩,
 ⟨(some 21), none, false, .mov (.t 1)⟩,
 ⟨(some 22), none, false, .ia 4 (.t 19) (.t 20)⟩,
 ⟨(some 23), none, false, .fa 1 1 (.t 22)⟩,
 ⟨none, none, true, .st 1 (.t 23) (.t 21)⟩])
 (.seq
 (.reg false [0, 1, 5] [⟨(some 24), none, false, .mov (.t 1)⟩,
 ⟨(some 25), none, false, .bin .add (.t 24) (.k (.d (.int .i64 1)))⟩,
 ⟨(some 1), none, false, .mov (.t 25)⟩])
 (.seq
 (.reg false [0, 1, 5] [⟨(some 26), none, false, .mov (.t 0)⟩,
 ⟨(some 27), none, false, .mov (.t 5)⟩,
 ⟨(some 28), none, false, .mov (.t 1)⟩,
 ⟨(some 29), none, false, .ia 4 (.t 26) (.t 27)⟩,
 ⟨(some 30), none, false, .fa 2 2 (.t 29)⟩,
 ⟨none, none, true, .st 1 (.t 30) (.t 28)⟩])
 (.seq
 (.reg false [0, 1, 5] [⟨(some 31), none, false, .mov (.t 1)⟩,
 ⟨(some 32), none, false, .bin .add (.t 31) (.k (.d (.int .i64 1)))⟩,
 ⟨(some 1), none, false, .mov (.t 32)⟩])
 (.reg false [0, 1, 5] [⟨(some 33), none, false, .mov (.t 0)⟩,
 ⟨(some 34), none, false, .mov (.t 5)⟩,
 ⟨(some 35), none, false, .ia 4 (.t 33) (.t 34)⟩,
 ⟨(some 36), none, false, .fa 3 3 (.t 35)⟩,
 ⟨(some 37), none, false, .ld none (.t 36)⟩,
 ⟨(some 38), none, false, .mov (.t 1)⟩,
 ⟨(some 39), none, true, .call 26 [(.t 37), (.t 38)]⟩,
 ⟨(some 1), none, false, .mov (.t 39)⟩]))))))))
 (.reg false [0, 1, 5] [⟨(some 10), none, false, .mov (.t 5)⟩,
 ⟨(some 11), none, false, .bin .add (.t 10) (.k (.d (.int .i64 1)))⟩,
 ⟨(some 5), none, false, .mov (.t 11)⟩]))))))
 (.seq
 (.reg false [0, 4] [⟨(some 40), none, false, .mov (.t 1)⟩,
 ⟨(some 4), none, false, .mov (.t 40)⟩])
 .ret)))
theorem c57 : (Go.Proofs.Try.f57).body.bind (comp prog.P (1, (Go.Proofs.Try.f57).ntmps) lv57) = some m57 := by kernel_rfl
theorem r57 : resOK prog.P (Go.Proofs.Try.f57).results.toList = true := by kernel_rfl

/-- laws.markStringS -/
def lv58 : List (Nat × List Nat) := [(0, [0, 1]), (1, [0, 1, 5]), (2, [0, 1, 5, 9]), (3, [0, 1, 5]), (4, [0, 1, 5]), (5, [0, 1, 5]), (6, [0, 4])]
def m58 : MC :=
  (.seq
 (.reg false [0, 1] [⟨(some 4), none, false, .mov (.k (.d (.int .i64 0)))⟩])
 (.seq
 (.seq
 (.reg false [0, 1, 5] [⟨(some 5), none, false, .mov (.k (.d (.int .i64 0)))⟩])
 (.block 0
 (.loop
 (.seq
 (.seq
 (.reg false [0, 1, 5, 9] [⟨(some 6), none, false, .mov (.t 5)⟩,
 ⟨(some 7), none, false, .mov (.t 0)⟩,
 ⟨(some 8), none, false, .len false (.t 7)⟩,
 ⟨(some 9), none, false, .bin .lss (.t 6) (.t 8)⟩])
 (.cond (.t 9)
 .skip
 (.exit 0)))
 (.seq
 (.block 1
 (.seq
 (.reg false [0, 1, 5] [⟨(some 12), none, false, .mov (.t 0)⟩,
 ⟨(some 13), none, false, .mov (.t 5)⟩,
 ⟨(some 14), none, false, .mov (.t 1)⟩,
 ⟨(some 15), none, true, .call 77 [(.t 14)]⟩,
 ⟨(some 16), none, false, .ia 1 (.t 12) (.t 13)⟩,
 ⟨none, none, true, .st 1 (.t 16) (.t 15)⟩])
 (.reg false [0, 1, 5] [⟨(some 17), none, false, .mov (.t 1)⟩,
 ⟨(some 18), none, false, .bin .add (.t 17) (.k (.d (.int .i64 1)))⟩,
 ⟨(some 1), none, false, .mov (.t 18)⟩])))
 (.reg false [0, 1, 5] [⟨(some 10), none, false, .mov (.t 5)⟩,
 ⟨(some 11), none, false, .bin .add (.t 10) (.k (.d (.int .i64 1)))⟩,
 ⟨(some 5), none, false, .mov (.t 11)⟩]))))))
 (.seq
 (.reg false [0, 4] [⟨(some 19), none, false, .mov (.t 1)⟩,
 ⟨(some 4), none, false, .mov (.t 19)⟩])
 .ret)))
theorem c58 : (Go.Proofs.Try.f58).body.bind (comp prog.P (1, (Go.Proofs.Try.f58).ntmps) lv58) = some m58 := by kernel_rfl
theorem r58 : resOK prog.P (Go.Proofs.Try.f58).results.toList = true := by kernel_rfl

/-- laws.heldCaseS -/
def lv59 : List (Nat × List Nat) := [(0, [0, 1]), (1, [0, 1, 5]), (2, [0, 1, 5, 9]), (3, [0, 1, 5]), (4, [0, 1, 5, 18]), (5, [4]), (6, [0, 1, 5]), (7, [0, 1, 5, 27]), (8, [4]), (9, [0, 1, 5]), (10, [0, 1, 5, 36]), (11, [4]), (12, [0, 1, 5]), (13, [0, 1, 5]), (14, [0, 1, 5, 47]), (15, [4]), (16, [4])]
def m59 : MC :=
  (.seq
 (.reg false [0, 1] [⟨(some 4), none, false, .mov (.k (.d (.int .i64 0)))⟩])
 (.seq
 (.seq
 (.reg false [0, 1, 5] [⟨(some 5), none, false, .mov (.k (.d (.int .i64 0)))⟩])
 (.block 0
 (.loop
 (.seq
 (.seq
 (.reg false [0, 1, 5, 9] [⟨(some 6), none, false, .mov (.t 5)⟩,
 ⟨(some 7), none, false, .mov (.t 0)⟩,
 ⟨(some 8), none, false, .len false (.t 7)⟩,
 ⟨(some 9), none, false, .bin .lss (.t 6) (.t 8)⟩])
 (.cond (.t 9)
 .skip
 (.exit 0)))
 (.seq
 (.block 1
 (.seq
 (.seq
 (.reg false [0, 1, 5, 18] [⟨(some 12), none, false, .mov (.t 0)⟩,
 ⟨(some 13), none, false, .mov (.t 5)⟩,
 ⟨(some 14), none, false, .ia 4 (.t 12) (.t 13)⟩,
 ⟨(some 15), none, false, .fa 0 0 (.t 14)⟩,
 ⟨(some 16), none, false, .ld none (.t 15)⟩,
 ⟨(some 17), none, false, .mov (.t 1)⟩,
 ⟨(some 18), none, false, .bin .neq (.t 16) (.t 17)⟩])
 (.cond (.t 18)
 (.seq
 (.reg false [4] [⟨(some 4), none, false, .mov (.k (.d (.int .i64 (-1))))⟩])
 .ret)
 .skip))
 (.seq
 (.reg false [0, 1, 5] [⟨(some 19), none, false, .mov (.t 1)⟩,
 ⟨(some 20), none, false, .bin .add (.t 19) (.k (.d (.int .i64 1)))⟩,
 ⟨(some 1), none, false, .mov (.t 20)⟩])
 (.seq
 (.seq
 (.reg false [0, 1, 5, 27] [⟨(some 21), none, false, .mov (.t 0)⟩,
 ⟨(some 22), none, false, .mov (.t 5)⟩,
 ⟨(some 23), none, false, .ia 4 (.t 21) (.t 22)⟩,
 ⟨(some 24), none, false, .fa 1 1 (.t 23)⟩,
 ⟨(some 25), none, false, .ld none (.t 24)⟩,
 ⟨(some 26), none, false, .mov (.t 1)⟩,
 ⟨(some 27), none, false, .bin .neq (.t 25) (.t 26)⟩])
 (.cond (.t 27)
 (.seq
 (.reg false [4] [⟨(some 4), none, false, .mov (.k (.d (.int .i64 (-1))))⟩])
 .ret)
 .skip))
 (.seq
 (.reg false [0, 1, 5] [⟨(some 28), none, false, .mov (.t 1)⟩,
 ⟨(some 29), none, false, .bin .add (.t 28) (.k (.d (.int .i64 1)))⟩,
 ⟨(some 1), none, false, .mov (.t 29)⟩])
 (.seq
 (.seq
 (.reg false [0, 1, 5, 36] [⟨(some 30), none, false, .mov (.t 0)⟩,
 ⟨(some 31), none, false, .mov (.t 5)⟩,
 ⟨(some 32), none, false, .ia 4 (.t 30) (.t 31)⟩,
 ⟨(some 33), none, false, .fa 2 2 (.t 32)⟩,
 ⟨(some 34), none, false, .ld none (.t 33)⟩,
 ⟨(some 35), none, false, .mov (.t 1)⟩,
 ⟨(some 36), none, false, .bin .neq (.t 34) (.t 35)⟩])
 (.cond (.t 36)
 (.seq
 (.reg false [4] [⟨(some 4), none, false, .mov (.k (.d (.int .i64 (-1))))⟩])
 .ret)
 .skip))
 (.seq
 (.reg false [0, 1, 5] [⟨(some 37), none, false, .mov (.t 1)⟩,
 ⟨(some 38), none, false, .bin .add (.t 37) (.k (.d (.int .i64 1)))⟩,
 ⟨(some 1), none, false, .mov (.t 38)⟩])
 (.seq
 (.reg false [0, 1, 5] [⟨(some 39), none, false, .mov (.t 0)⟩,
 ⟨(some 40), none, false, .mov (.t 5)⟩,
 ⟨(some 41), none, false, .ia 4 (.t 39) (.t 40)⟩,
 ⟨(some 42), none, false, .fa 3 3 (.t 41)⟩,
 ⟨(some 43), none, false, .ld none (.t 42)⟩,
 ⟨(some 44), none, false, .mov (.t 1)⟩,
 ⟨(some 45), none, true, .call 27 [(.t 43), (.t 44)]⟩,
 ⟨(some 1), none, false, .mov (.t 45)⟩])
 (.seq
 (.reg false [0, 1, 5, 47] [⟨(some 46), none, false, .mov (.t 1)⟩,
 ⟨(some 47), none, false, .bin .lss (.t 46) (.k (.d (.int .i64 0)))⟩])
 (.cond (.t 47)
 (.seq
 (.reg false [4] [⟨(some 4), none, false, .mov (.k (.d (.int .i64 (-1))))⟩])
 .ret)
 .skip))))))))))
 (.reg false [0, 1, 5] [⟨(some 10), none, false, .mov (.t 5)⟩,
 ⟨(some 11), none, false, .bin .add (.t 10) (.k (.d (.int .i64 1)))⟩,
 ⟨(some 5), none, false, .mov (.t 11)⟩]))))))
 (.seq
 (.reg false [4] [⟨(some 48), none, false, .mov (.t 1)⟩,
 ⟨(some 4), none, false, .mov (.t 48)⟩])
 .ret)))
theorem c59 : (Go.Proofs.Try.f59).body.bind (comp prog.P (1, (Go.Proofs.Try.f59).ntmps) lv59) = some m59 := by kernel_rfl
theorem r59 : resOK prog.P (Go.Proofs.Try.f59).results.toList = true := by kernel_rfl

/-- laws.heldStringS -/
def lv60 : List (Nat × List Nat) := [(0, [0, 1]), (1, [0, 1, 5]), (2, [0, 1, 5, 9]), (3, [0, 1, 5]), (4, [0, 1, 5, 18]), (5, [4]), (6, [0, 1, 5]), (7, [4])]
def m60 : MC :=
  (.seq
 (.reg false [0, 1] [⟨(some 4), none, false, .mov (.k (.d (.int .i64 0)))⟩])
 (.seq
 (.seq
 (.reg false [0, 1, 5] [⟨(some 5), none, false, .mov (.k (.d (.int .i64 0)))⟩])
 (.block 0
 (.loop
 (.seq
 (.seq
 (.reg false [0, 1, 5, 9] [⟨(some 6), none, false, .mov (.t 5)⟩,
 ⟨(some 7), none, false, .mov (.t 0)⟩,
 ⟨(some 8), none, false, .len false (.t 7)⟩,
 ⟨(some 9), none, false, .bin .lss (.t 6) (.t 8)⟩])
 (.cond (.t 9)
 .skip
 (.exit 0)))
 (.seq
 (.block 1
 (.seq
 (.seq
 (.reg true [0, 1, 5, 18] [⟨(some 12), none, false, .mov (.t 0)⟩,
 ⟨(some 13), none, false, .mov (.t 5)⟩,
 ⟨(some 14), none, false, .ia 1 (.t 12) (.t 13)⟩,
 ⟨(some 15), none, false, .ld none (.t 14)⟩,
 ⟨(some 16), none, false, .mov (.t 1)⟩,
 ⟨(some 17), none, false, .callP 77 [(.t 16)]⟩,
 ⟨(some 18), none, false, .bin .neq (.t 15) (.t 17)⟩])
 (.cond (.t 18)
 (.seq
 (.reg false [4] [⟨(some 4), none, false, .mov (.k (.d (.int .i64 (-1))))⟩])
 .ret)
 .skip))
 (.reg false [0, 1, 5] [⟨(some 19), none, false, .mov (.t 1)⟩,
 ⟨(some 20), none, false, .bin .add (.t 19) (.k (.d (.int .i64 1)))⟩,
 ⟨(some 1), none, false, .mov (.t 20)⟩])))
 (.reg false [0, 1, 5] [⟨(some 10), none, false, .mov (.t 5)⟩,
 ⟨(some 11), none, false, .bin .add (.t 10) (.k (.d (.int .i64 1)))⟩,
 ⟨(some 5), none, false, .mov (.t 11)⟩]))))))
 (.seq
 (.reg false [4] [⟨(some 21), none, false, .mov (.t 1)⟩,
 ⟨(some 4), none, false, .mov (.t 21)⟩])
 .ret)))
theorem c60 : (Go.Proofs.Try.f60).body.bind (comp prog.P (1, (Go.Proofs.Try.f60).ntmps) lv60) = some m60 := by kernel_rfl
theorem r60 : resOK prog.P (Go.Proofs.Try.f60).results.toList = true := by kernel_rfl

/-- impl.within -/
def lv64 : List (Nat × List Nat) := [(0, [0, 1, 2]), (1, [6])]
def m64 : MC :=
  (.seq
 (.reg false [0, 1, 2] [⟨(some 6), none, false, .mov (.k (.d (.bool false)))⟩])
 (.seq
 (.reg false [6] [⟨(some 7), none, false, .mov (.t 1)⟩,
 ⟨(some 8), none, false, .mov (.t 0)⟩,
 ⟨(some 9), none, false, .bin .leq (.t 7) (.t 8)⟩,
 ⟨(some 10), none, false, .mov (.t 9)⟩,
 ⟨(some 11), (some (10, true)), false, .mov (.t 0)⟩,
 ⟨(some 12), (some (10, true)), false, .mov (.t 2)⟩,
 ⟨(some 13), (some (10, true)), false, .bin .leq (.t 11) (.t 12)⟩,
 ⟨(some 14), none, false, .pick (.t 10) (.t 13) (.k (.d (.bool false)))⟩,
 ⟨(some 6), none, false, .mov (.t 14)⟩])
 .ret))
theorem c64 : (Go.Proofs.Try.f64).body.bind (comp prog.P (3, (Go.Proofs.Try.f64).ntmps) lv64) = some m64 := by kernel_rfl
theorem r64 : resOK prog.P (Go.Proofs.Try.f64).results.toList = true := by kernel_rfl

/-- spec.l1In -/
def lv71 : List (Nat × List Nat) := [(0, [0, 1, 2]), (1, [6])]
def m71 : MC :=
  (.seq
 (.reg false [0, 1, 2] [⟨(some 6), none, false, .mov (.k (.d (.bool false)))⟩])
 (.seq
 (.reg false [6] [⟨(some 7), none, false, .mov (.t 0)⟩,
 ⟨(some 8), none, false, .mov (.t 1)⟩,
 ⟨(some 9), none, false, .bin .geq (.t 7) (.t 8)⟩,
 ⟨(some 10), none, false, .mov (.t 9)⟩,
 ⟨(some 11), (some (10, true)), false, .mov (.t 0)⟩,
 ⟨(some 12), (some (10, true)), false, .mov (.t 2)⟩,
 ⟨(some 13), (some (10, true)), false, .bin .leq (.t 11) (.t 12)⟩,
 ⟨(some 14), none, false, .pick (.t 10) (.t 13) (.k (.d (.bool false)))⟩,
 ⟨(some 6), none, false, .mov (.t 14)⟩])
 .ret))
theorem c71 : (Go.Proofs.Try.f71).body.bind (comp prog.P (3, (Go.Proofs.Try.f71).ntmps) lv71) = some m71 := by kernel_rfl
theorem r71 : resOK prog.P (Go.Proofs.Try.f71).results.toList = true := by kernel_rfl

end Go.Pe.Try
