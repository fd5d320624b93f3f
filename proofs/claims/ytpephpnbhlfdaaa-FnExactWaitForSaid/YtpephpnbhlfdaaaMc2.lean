/-
The compact code of the functions that the law reaches, printed by gen.py, each with the proof that the machine's code is compiled to it.
-/
import Derived.Test.YtpephpnbhlfdaaaMc1
import Derived.Test.YtpephpnbhlfdaaaProg
import Derived.KernelRfl
set_option maxRecDepth 100000
namespace Go.Pe.Try
open Go.Pe

/-- laws.toAppeal -/
def lv23 : List (Nat × List Nat) := [(0, [1, 2]), (1, [1, 2, 3]), (2, [1, 2, 3]), (3, [1, 2, 3]), (4, [1, 2, 3]), (5, [1, 2, 3]), (6, [1, 2, 3]), (7, [2, 3]), (8, [2])]
def m23 : MC :=
  (.seq
 (.reg false [1, 2] [⟨(some 1), none, true, .box (.t 0)⟩,
 ⟨(some 2), none, true, .alloc (.st (.cons (.int .i64 0) (.cons (.int .i64 0) (.cons (.int .i64 0) (.cons (.sl true 1 .nil) (.cons (.sl true 1 .nil) (.cons (.int .i64 0) .nil)))))))⟩])
 (.seq
 (.reg false [1, 2, 3] [⟨(some 3), none, true, .alloc (.st (.cons (.int .i64 0) (.cons (.int .i64 0) (.cons (.int .i64 0) (.cons (.sl true 1 .nil) (.cons (.sl true 1 .nil) (.cons (.int .i64 0) .nil)))))))⟩])
 (.seq
 (.reg false [1, 2, 3] [⟨(some 4), none, false, .fa 0 0 (.t 1)⟩,
 ⟨(some 5), none, false, .ld none (.t 4)⟩,
 ⟨(some 6), none, false, .fa 0 0 (.t 3)⟩,
 ⟨none, none, true, .st 1 (.t 6) (.t 5)⟩])
 (.seq
 (.reg false [1, 2, 3] [⟨(some 7), none, false, .fa 1 1 (.t 1)⟩,
 ⟨(some 8), none, false, .ld none (.t 7)⟩,
 ⟨(some 9), none, false, .fa 1 1 (.t 3)⟩,
 ⟨none, none, true, .st 1 (.t 9) (.t 8)⟩])
 (.seq
 (.reg false [1, 2, 3] [⟨(some 10), none, false, .fa 2 2 (.t 1)⟩,
 ⟨(some 11), none, false, .ld none (.t 10)⟩,
 ⟨(some 12), none, false, .fa 2 2 (.t 3)⟩,
 ⟨none, none, true, .st 1 (.t 12) (.t 11)⟩])
 (.seq
 (.reg false [1, 2, 3] [⟨(some 13), none, false, .fa 3 3 (.t 1)⟩,
 ⟨(some 14), none, false, .ld none (.t 13)⟩,
 ⟨(some 15), none, true, .call 38 [(.t 14)]⟩,
 ⟨(some 16), none, false, .fa 3 3 (.t 3)⟩,
 ⟨none, none, true, .st 1 (.t 16) (.t 15)⟩])
 (.seq
 (.reg false [1, 2, 3] [⟨(some 17), none, false, .fa 4 4 (.t 1)⟩,
 ⟨(some 18), none, false, .ld none (.t 17)⟩,
 ⟨(some 19), none, true, .call 38 [(.t 18)]⟩,
 ⟨(some 20), none, false, .fa 4 4 (.t 3)⟩,
 ⟨none, none, true, .st 1 (.t 20) (.t 19)⟩])
 (.seq
 (.reg false [2, 3] [⟨(some 21), none, false, .fa 5 5 (.t 1)⟩,
 ⟨(some 22), none, false, .ld none (.t 21)⟩,
 ⟨(some 23), none, false, .fa 5 5 (.t 3)⟩,
 ⟨none, none, true, .st 1 (.t 23) (.t 22)⟩])
 (.seq
 (.reg false [2] [⟨(some 24), none, false, .ld (some 6) (.t 3)⟩,
 ⟨none, none, true, .st 6 (.t 2) (.t 24)⟩])
 .ret)))))))))
theorem c23 : (Go.Proofs.Try.f23).body.bind (comp prog.P (1, (Go.Proofs.Try.f23).ntmps) lv23) = some m23 := by kernel_rfl
theorem r23 : resOK prog.P (Go.Proofs.Try.f23).results.toList = true := by kernel_rfl

/-- impl.appealAt -/
def lv24 : List (Nat × List Nat) := [(0, [0, 3]), (1, [4])]
def m24 : MC :=
  (.seq
 (.reg false [0, 3] [⟨(some 3), none, true, .box (.t 1)⟩,
 ⟨(some 4), none, false, .mov (.k (.d (.int .i64 0)))⟩])
 (.seq
 (.reg false [4] [⟨(some 5), none, false, .mov (.t 0)⟩,
 ⟨(some 6), none, false, .clos 40 [(.t 3)]⟩,
 ⟨(some 7), none, true, .call 39 [(.t 5), (.t 6)]⟩,
 ⟨(some 4), none, false, .mov (.t 7)⟩])
 .ret))
theorem c24 : (Go.Proofs.Try.f24).body.bind (comp prog.P (2, (Go.Proofs.Try.f24).ntmps) lv24) = some m24 := by kernel_rfl
theorem r24 : resOK prog.P (Go.Proofs.Try.f24).results.toList = true := by kernel_rfl

/-- impl.AreAppeals -/
def lv25 : List (Nat × List Nat) := [(0, [0]), (1, [0, 5, 6, 7]), (2, [0, 5, 6, 7, 8]), (3, [0, 3, 4, 5, 6, 7]), (4, [0, 3, 4, 5, 6, 7, 29]), (5, [2]), (6, [0, 5, 6, 7, 38]), (7, [2]), (8, [0, 5, 6, 7]), (9, [2])]
def m25 : MC :=
  (.seq
 (.reg false [0] [⟨(some 2), none, false, .mov (.k (.d (.bool false)))⟩])
 (.seq
 (.seq
 (.reg false [0, 5, 6, 7] [⟨(some 5), none, false, .mov (.t 0)⟩,
 ⟨(some 6), none, false, .len false (.t 5)⟩,
 ⟨(some 7), none, false, .mov (.k (.d (.int .i64 0)))⟩])
 (.block 0
 (.loop
 (.seq
 (.reg false [0, 5, 6, 7, 8] [⟨(some 8), none, false, .bin .lss (.t 7) (.t 6)⟩])
 (.seq
 (.cond (.t 8)
 .skip
 (.exit 0))
 (.seq
 (.block 1
 (.seq
 (.reg false [0, 3, 4, 5, 6, 7] [⟨(some 9), none, false, .mov (.t 7)⟩,
 ⟨(some 10), none, false, .ia 6 (.t 5) (.t 7)⟩,
 ⟨(some 11), none, false, .ld (some 6) (.t 10)⟩,
 ⟨(some 4), none, true, .alloc (.st (.cons (.int .i64 0) (.cons (.int .i64 0) (.cons (.int .i64 0) (.cons (.sl true 1 .nil) (.cons (.sl true 1 .nil) (.cons (.int .i64 0) .nil)))))))⟩,
 ⟨(some 3), none, false, .mov (.t 9)⟩,
 ⟨none, none, true, .st 6 (.t 4) (.t 11)⟩])
 (.seq
 (.seq
 (.reg true [0, 3, 4, 5, 6, 7, 29] [⟨(some 12), none, false, .ld (some 6) (.t 4)⟩,
 ⟨(some 13), none, false, .callP 41 [(.t 12)]⟩,
 ⟨(some 14), none, false, .un .not (.t 13)⟩,
 ⟨(some 15), none, false, .mov (.t 14)⟩,
 ⟨(some 16), (some (15, false)), false, .mov (.t 3)⟩,
 ⟨(some 17), (some (15, false)), false, .bin .gtr (.t 16) (.k (.d (.int .i64 0)))⟩,
 ⟨(some 18), (some (15, false)), false, .mov (.t 17)⟩,
 ⟨(some 19), (some (18, true)), false, .mov (.t 0)⟩,
 ⟨(some 20), (some (18, true)), false, .mov (.t 3)⟩,
 ⟨(some 21), (some (18, true)), false, .bin .sub (.t 20) (.k (.d (.int .i64 1)))⟩,
 ⟨(some 22), (some (18, true)), false, .ia 6 (.t 19) (.t 21)⟩,
 ⟨(some 23), (some (18, true)), false, .fa 0 0 (.t 22)⟩,
 ⟨(some 24), (some (18, true)), false, .ld none (.t 23)⟩,
 ⟨(some 25), (some (18, true)), false, .fa 0 0 (.t 4)⟩,
 ⟨(some 26), (some (18, true)), false, .ld none (.t 25)⟩,
 ⟨(some 27), (some (18, true)), false, .bin .geq (.t 24) (.t 26)⟩,
 ⟨(some 28), (some (15, false)), false, .pick (.t 18) (.t 27) (.k (.d (.bool false)))⟩,
 ⟨(some 29), none, false, .pick (.t 15) (.k (.d (.bool true))) (.t 28)⟩])
 (.cond (.t 29)
 (.seq
 (.reg false [2] [⟨(some 2), none, false, .mov (.k (.d (.bool false)))⟩])
 .ret)
 .skip))
 (.seq
 (.reg false [0, 5, 6, 7, 38] [⟨(some 30), none, false, .ld (some 6) (.t 4)⟩,
 ⟨(some 31), none, true, .call 42 [(.t 30)]⟩,
 ⟨(some 32), none, false, .mov (.t 31)⟩,
 ⟨(some 33), (some (32, true)), false, .mov (.t 0)⟩,
 ⟨(some 34), (some (32, true)), false, .mov (.t 3)⟩,
 ⟨(some 35), (some (32, true)), false, .slx 6 (.t 33) none (some (.t 34))⟩,
 ⟨(some 36), (some (32, true)), false, .clos 44 [(.t 4)]⟩,
 ⟨(some 37), (some (32, true)), true, .call 43 [(.t 35), (.t 36)]⟩,
 ⟨(some 38), none, false, .pick (.t 32) (.t 37) (.k (.d (.bool false)))⟩])
 (.cond (.t 38)
 (.seq
 (.reg false [2] [⟨(some 2), none, false, .mov (.k (.d (.bool false)))⟩])
 .ret)
 .skip)))))
 (.reg false [0, 5, 6, 7] [⟨(some 39), none, false, .bin .add (.t 7) (.k (.d (.int .i64 1)))⟩,
 ⟨(some 7), none, false, .mov (.t 39)⟩])))))))
 (.seq
 (.reg false [2] [⟨(some 40), none, false, .mov (.t 0)⟩,
 ⟨(some 41), none, false, .len false (.t 40)⟩,
 ⟨(some 42), none, false, .bin .leq (.t 41) (.k (.d (.int .i64 10)))⟩,
 ⟨(some 2), none, false, .mov (.t 42)⟩])
 .ret)))
theorem c25 : (Go.Proofs.Try.f25).body.bind (comp prog.P (1, (Go.Proofs.Try.f25).ntmps) lv25) = some m25 := by kernel_rfl
theorem r25 : resOK prog.P (Go.Proofs.Try.f25).results.toList = true := by kernel_rfl

/-- impl.Appeal).waits -/
def lv26 : List (Nat × List Nat) := [(0, [1, 2]), (1, [4])]
def m26 : MC :=
  (.seq
 (.reg false [1, 2] [⟨(some 2), none, true, .box (.t 0)⟩,
 ⟨(some 4), none, false, .mov (.k (.d (.bool false)))⟩])
 (.seq
 (.reg false [4] [⟨(some 5), none, false, .fa 5 5 (.t 2)⟩,
 ⟨(some 6), none, false, .ld none (.t 5)⟩,
 ⟨(some 7), none, false, .bin .eql (.t 6) (.k (.d (.int .i64 0)))⟩,
 ⟨(some 8), none, false, .mov (.t 7)⟩,
 ⟨(some 9), (some (8, true)), false, .fa 3 3 (.t 2)⟩,
 ⟨(some 10), (some (8, true)), false, .ld none (.t 9)⟩,
 ⟨(some 11), (some (8, true)), false, .mov (.t 1)⟩,
 ⟨(some 12), (some (8, true)), true, .call 45 [(.t 10), (.t 11)]⟩,
 ⟨(some 13), none, false, .pick (.t 8) (.t 12) (.k (.d (.bool false)))⟩,
 ⟨(some 14), none, false, .mov (.t 13)⟩,
 ⟨(some 15), (some (14, true)), false, .fa 4 4 (.t 2)⟩,
 ⟨(some 16), (some (14, true)), false, .ld none (.t 15)⟩,
 ⟨(some 17), (some (14, true)), false, .mov (.t 1)⟩,
 ⟨(some 18), (some (14, true)), true, .call 45 [(.t 16), (.t 17)]⟩,
 ⟨(some 19), (some (14, true)), false, .un .not (.t 18)⟩,
 ⟨(some 20), none, false, .pick (.t 14) (.t 19) (.k (.d (.bool false)))⟩,
 ⟨(some 4), none, false, .mov (.t 20)⟩])
 .ret))
theorem c26 : (Go.Proofs.Try.f26).body.bind (comp prog.P (2, (Go.Proofs.Try.f26).ntmps) lv26) = some m26 := by kernel_rfl
theorem r26 : resOK prog.P (Go.Proofs.Try.f26).results.toList = true := by kernel_rfl

/-- impl.copyAppeals -/
def lv27 : List (Nat × List Nat) := [(0, [0]), (1, [3]), (2, [3, 8, 9]), (3, [3, 8, 9, 10]), (4, [3, 4, 8, 9]), (5, [3, 8, 9]), (6, [3, 8, 9]), (7, [2]), (1000005, [4, 18, 19, 20, 21, 1, 0, 1, 1, 1, 2, 1, 3, 1, 4, 1, 5, 1, 6, 1, 7, 1, 8, 1, 10, 1, 11, 1, 12, 1, 13, 1, 14, 2, 9, 2, 15, 1, 16, 1, 17, 2, 18, 2, 19, 2, 20, 2, 21, 0])]
def m27 : MC :=
  (.seq
 (.reg false [0] [⟨(some 2), none, false, .mov (.k .nil)⟩])
 (.seq
 (.reg false [3] [⟨(some 5), none, false, .mov (.t 0)⟩,
 ⟨(some 6), none, true, .call 46 [(.t 5)]⟩,
 ⟨(some 3), none, false, .mov (.t 6)⟩])
 (.seq
 (.seq
 (.reg false [3, 8, 9] [⟨(some 7), none, false, .mov (.t 3)⟩,
 ⟨(some 8), none, false, .len false (.t 7)⟩,
 ⟨(some 9), none, false, .mov (.k (.d (.int .i64 0)))⟩])
 (.block 0
 (.loop
 (.seq
 (.reg false [3, 8, 9, 10] [⟨(some 10), none, false, .bin .lss (.t 9) (.t 8)⟩])
 (.seq
 (.cond (.t 10)
 .skip
 (.exit 0))
 (.seq
 (.block 1
 (.seq
 (.reg false [3, 4, 8, 9] [⟨(some 11), none, false, .mov (.t 9)⟩,
 ⟨(some 4), none, false, .mov (.t 11)⟩])
 (.any [18, 19, 20, 21] [3, 8, 9] (.q 0 ⟨(some 12), none, false, .mov (.t 3)⟩ (.q 1 ⟨(some 13), none, false, .mov (.t 4)⟩ (.q 2 ⟨(some 14), none, false, .mov (.t 3)⟩ (.q 3 ⟨(some 15), none, false, .mov (.t 4)⟩ (.q 4 ⟨(some 16), none, false, .mov (.t 3)⟩ (.q 5 ⟨(some 17), none, false, .mov (.t 4)⟩ (.q 6 ⟨(some 18), none, false, .ia 6 (.t 16) (.t 17)⟩ (.q 7 ⟨(some 19), none, false, .fa 3 3 (.t 18)⟩ (.q 8 ⟨(some 20), none, false, .ld none (.t 19)⟩ (.q 10 ⟨(some 22), none, false, .mov (.t 3)⟩ (.q 11 ⟨(some 23), none, false, .mov (.t 4)⟩ (.q 12 ⟨(some 24), none, false, .ia 6 (.t 22) (.t 23)⟩ (.q 13 ⟨(some 25), none, false, .fa 4 4 (.t 24)⟩ (.q 14 ⟨(some 26), none, false, .ld none (.t 25)⟩ (.e 9 ⟨(some 21), none, true, .call 47 [(.t 20)]⟩ (.e 15 ⟨(some 27), none, true, .call 47 [(.t 26)]⟩ (.q 16 ⟨(some 28), none, false, .ia 6 (.t 12) (.t 13)⟩ (.q 17 ⟨(some 29), none, false, .fa 3 3 (.t 28)⟩ (.e 18 ⟨none, none, true, .st 1 (.t 29) (.t 21)⟩ (.e 19 ⟨(some 30), none, false, .ia 6 (.t 14) (.t 15)⟩ (.e 20 ⟨(some 31), none, false, .fa 4 4 (.t 30)⟩ (.e 21 ⟨none, none, true, .st 1 (.t 31) (.t 27)⟩ .done)))))))))))))))))))))))))
 (.reg false [3, 8, 9] [⟨(some 32), none, false, .bin .add (.t 9) (.k (.d (.int .i64 1)))⟩,
 ⟨(some 9), none, false, .mov (.t 32)⟩])))))))
 (.seq
 (.reg false [2] [⟨(some 33), none, false, .mov (.t 3)⟩,
 ⟨(some 2), none, false, .mov (.t 33)⟩])
 .ret))))
theorem c27 : (Go.Proofs.Try.f27).body.bind (comp prog.P (1, (Go.Proofs.Try.f27).ntmps) lv27) = some m27 := by kernel_rfl
theorem r27 : resOK prog.P (Go.Proofs.Try.f27).results.toList = true := by kernel_rfl

/-- slices.Sort[[]int,int] -/
def lv28 : List (Nat × List Nat) := [(0, [0, 2]), (1, [0])]
def m28 : MC :=
  (.seq
 (.reg false [0, 2] [⟨(some 3), none, false, .mov (.t 0)⟩,
 ⟨(some 4), none, false, .len false (.t 3)⟩,
 ⟨(some 2), none, false, .mov (.t 4)⟩])
 (.reg false [0] [⟨(some 5), none, false, .mov (.t 0)⟩,
 ⟨(some 6), none, false, .mov (.t 2)⟩,
 ⟨(some 7), none, false, .mov (.t 2)⟩,
 ⟨(some 8), none, false, .conv .u64 (.t 7)⟩,
 ⟨(some 9), none, true, .call 49 [(.t 8)]⟩,
 ⟨(some 10), none, true, .call 48 [(.t 5), (.k (.d (.int .i64 0))), (.t 6), (.t 9)]⟩]))
theorem c28 : (Go.Proofs.Try.f28).body.bind (comp prog.P (1, (Go.Proofs.Try.f28).ntmps) lv28) = some m28 := by kernel_rfl
theorem r28 : resOK prog.P (Go.Proofs.Try.f28).results.toList = true := by kernel_rfl

/-- laws.eqAppeal -/
def lv29 : List (Nat × List Nat) := [(0, [2, 3]), (1, [2, 3, 9]), (2, [4]), (3, [2, 3, 14]), (4, [4]), (5, [2, 3, 19]), (6, [4]), (7, [2, 3, 25]), (8, [4]), (9, [2, 3, 31]), (10, [4]), (11, [36]), (12, [4]), (13, [4])]
def m29 : MC :=
  (.seq
 (.reg false [2, 3] [⟨(some 2), none, true, .box (.t 0)⟩,
 ⟨(some 3), none, true, .box (.t 1)⟩,
 ⟨(some 4), none, false, .mov (.k (.d (.bool false)))⟩])
 (.seq
 (.seq
 (.reg false [2, 3, 9] [⟨(some 5), none, false, .fa 0 0 (.t 2)⟩,
 ⟨(some 6), none, false, .ld none (.t 5)⟩,
 ⟨(some 7), none, false, .fa 0 0 (.t 3)⟩,
 ⟨(some 8), none, false, .ld none (.t 7)⟩,
 ⟨(some 9), none, false, .bin .neq (.t 6) (.t 8)⟩])
 (.cond (.t 9)
 (.seq
 (.reg false [4] [⟨(some 4), none, false, .mov (.k (.d (.bool false)))⟩])
 .ret)
 .skip))
 (.seq
 (.seq
 (.reg false [2, 3, 14] [⟨(some 10), none, false, .fa 1 1 (.t 2)⟩,
 ⟨(some 11), none, false, .ld none (.t 10)⟩,
 ⟨(some 12), none, false, .fa 1 1 (.t 3)⟩,
 ⟨(some 13), none, false, .ld none (.t 12)⟩,
 ⟨(some 14), none, false, .bin .neq (.t 11) (.t 13)⟩])
 (.cond (.t 14)
 (.seq
 (.reg false [4] [⟨(some 4), none, false, .mov (.k (.d (.bool false)))⟩])
 .ret)
 .skip))
 (.seq
 (.seq
 (.reg false [2, 3, 19] [⟨(some 15), none, false, .fa 2 2 (.t 2)⟩,
 ⟨(some 16), none, false, .ld none (.t 15)⟩,
 ⟨(some 17), none, false, .fa 2 2 (.t 3)⟩,
 ⟨(some 18), none, false, .ld none (.t 17)⟩,
 ⟨(some 19), none, false, .bin .neq (.t 16) (.t 18)⟩])
 (.cond (.t 19)
 (.seq
 (.reg false [4] [⟨(some 4), none, false, .mov (.k (.d (.bool false)))⟩])
 .ret)
 .skip))
 (.seq
 (.seq
 (.reg false [2, 3, 25] [⟨(some 20), none, false, .fa 3 3 (.t 2)⟩,
 ⟨(some 21), none, false, .ld none (.t 20)⟩,
 ⟨(some 22), none, false, .fa 3 3 (.t 3)⟩,
 ⟨(some 23), none, false, .ld none (.t 22)⟩,
 ⟨(some 24), none, true, .call 14 [(.t 21), (.t 23)]⟩,
 ⟨(some 25), none, false, .un .not (.t 24)⟩])
 (.cond (.t 25)
 (.seq
 (.reg false [4] [⟨(some 4), none, false, .mov (.k (.d (.bool false)))⟩])
 .ret)
 .skip))
 (.seq
 (.seq
 (.reg false [2, 3, 31] [⟨(some 26), none, false, .fa 4 4 (.t 2)⟩,
 ⟨(some 27), none, false, .ld none (.t 26)⟩,
 ⟨(some 28), none, false, .fa 4 4 (.t 3)⟩,
 ⟨(some 29), none, false, .ld none (.t 28)⟩,
 ⟨(some 30), none, true, .call 14 [(.t 27), (.t 29)]⟩,
 ⟨(some 31), none, false, .un .not (.t 30)⟩])
 (.cond (.t 31)
 (.seq
 (.reg false [4] [⟨(some 4), none, false, .mov (.k (.d (.bool false)))⟩])
 .ret)
 .skip))
 (.seq
 (.seq
 (.reg false [36] [⟨(some 32), none, false, .fa 5 5 (.t 2)⟩,
 ⟨(some 33), none, false, .ld none (.t 32)⟩,
 ⟨(some 34), none, false, .fa 5 5 (.t 3)⟩,
 ⟨(some 35), none, false, .ld none (.t 34)⟩,
 ⟨(some 36), none, false, .bin .neq (.t 33) (.t 35)⟩])
 (.cond (.t 36)
 (.seq
 (.reg false [4] [⟨(some 4), none, false, .mov (.k (.d (.bool false)))⟩])
 .ret)
 .skip))
 (.seq
 (.reg false [4] [⟨(some 4), none, false, .mov (.k (.d (.bool true)))⟩])
 .ret))))))))
theorem c29 : (Go.Proofs.Try.f29).body.bind (comp prog.P (2, (Go.Proofs.Try.f29).ntmps) lv29) = some m29 := by kernel_rfl
theorem r29 : resOK prog.P (Go.Proofs.Try.f29).results.toList = true := by kernel_rfl

/-- spec.l24Party -/
def lv30 : List (Nat × List Nat) := [(0, [0]), (1, [2])]
def m30 : MC :=
  (.seq
 (.reg false [0] [⟨(some 2), none, false, .mov (.k (.d (.bool false)))⟩])
 (.seq
 (.reg false [2] [⟨(some 3), none, false, .mov (.t 0)⟩,
 ⟨(some 4), none, true, .call 50 [(.t 3), (.k (.d (.int .i64 1))), (.k (.d (.int .i64 50)))]⟩,
 ⟨(some 2), none, false, .mov (.t 4)⟩])
 .ret))
theorem c30 : (Go.Proofs.Try.f30).body.bind (comp prog.P (1, (Go.Proofs.Try.f30).ntmps) lv30) = some m30 := by kernel_rfl
theorem r30 : resOK prog.P (Go.Proofs.Try.f30).results.toList = true := by kernel_rfl

/-- impl.isParty -/
def lv31 : List (Nat × List Nat) := [(0, [0]), (1, [2])]
def m31 : MC :=
  (.seq
 (.reg false [0] [⟨(some 2), none, false, .mov (.k (.d (.bool false)))⟩])
 (.seq
 (.reg false [2] [⟨(some 3), none, false, .mov (.t 0)⟩,
 ⟨(some 4), none, true, .call 51 [(.t 3), (.k (.d (.int .i64 1))), (.k (.d (.int .i64 50)))]⟩,
 ⟨(some 2), none, false, .mov (.t 4)⟩])
 .ret))
theorem c31 : (Go.Proofs.Try.f31).body.bind (comp prog.P (1, (Go.Proofs.Try.f31).ntmps) lv31) = some m31 := by kernel_rfl
theorem r31 : resOK prog.P (Go.Proofs.Try.f31).results.toList = true := by kernel_rfl

/-- slices.SortStableFunc[[]impl.Appeal,impl.Appeal] -/
def lv32 : List (Nat × List Nat) := [(0, [0])]
def m32 : MC :=
  (.reg false [0] [⟨(some 4), none, false, .mov (.t 0)⟩,
 ⟨(some 5), none, false, .mov (.t 0)⟩,
 ⟨(some 6), none, false, .len false (.t 5)⟩,
 ⟨(some 7), none, false, .mov (.t 1)⟩,
 ⟨(some 8), none, true, .call 52 [(.t 4), (.t 6), (.t 7)]⟩])
theorem c32 : (Go.Proofs.Try.f32).body.bind (comp prog.P (2, (Go.Proofs.Try.f32).ntmps) lv32) = some m32 := by kernel_rfl
theorem r32 : resOK prog.P (Go.Proofs.Try.f32).results.toList = true := by kernel_rfl

/-- impl.WaitFor$1 -/
def lv33 : List (Nat × List Nat) := [(0, [2, 3]), (1, [4])]
def m33 : MC :=
  (.seq
 (.reg false [2, 3] [⟨(some 2), none, true, .box (.t 0)⟩,
 ⟨(some 3), none, true, .box (.t 1)⟩,
 ⟨(some 4), none, false, .mov (.k (.d (.int .i64 0)))⟩])
 (.seq
 (.reg false [4] [⟨(some 5), none, false, .fa 2 2 (.t 2)⟩,
 ⟨(some 6), none, false, .ld none (.t 5)⟩,
 ⟨(some 7), none, false, .fa 2 2 (.t 3)⟩,
 ⟨(some 8), none, false, .ld none (.t 7)⟩,
 ⟨(some 9), none, true, .call 34 [(.t 6), (.t 8)]⟩,
 ⟨(some 4), none, false, .mov (.t 9)⟩])
 .ret))
theorem c33 : (Go.Proofs.Try.f33).body.bind (comp prog.P (2, (Go.Proofs.Try.f33).ntmps) lv33) = some m33 := by kernel_rfl
theorem r33 : resOK prog.P (Go.Proofs.Try.f33).results.toList = true := by kernel_rfl
theorem en33 : enterOK prog.P 33 = true := by kernel_rfl

/-- cmp.Compare[int] -/
def lv34 : List (Nat × List Nat) := [(0, [0, 1]), (1, [0, 1, 5]), (2, [0, 1, 5, 6]), (3, [0, 1, 6, 11]), (4, [12]), (5, [4]), (6, [4]), (7, [0, 1, 13]), (8, [4]), (9, [0, 1, 16]), (10, [4]), (11, [19]), (12, [4]), (13, [4])]
def m34 : MC :=
  (.seq
 (.reg false [0, 1] [⟨(some 4), none, false, .mov (.k (.d (.int .i64 0)))⟩])
 (.seq
 (.reg false [0, 1, 5] [⟨(some 7), none, false, .mov (.t 0)⟩,
 ⟨(some 8), none, true, .call 53 [(.t 7)]⟩,
 ⟨(some 5), none, false, .mov (.t 8)⟩])
 (.seq
 (.reg false [0, 1, 5, 6] [⟨(some 9), none, false, .mov (.t 1)⟩,
 ⟨(some 10), none, true, .call 53 [(.t 9)]⟩,
 ⟨(some 6), none, false, .mov (.t 10)⟩])
 (.seq
 (.seq
 (.reg false [0, 1, 6, 11] [⟨(some 11), none, false, .mov (.t 5)⟩])
 (.cond (.t 11)
 (.seq
 (.seq
 (.reg false [12] [⟨(some 12), none, false, .mov (.t 6)⟩])
 (.cond (.t 12)
 (.seq
 (.reg false [4] [⟨(some 4), none, false, .mov (.k (.d (.int .i64 0)))⟩])
 .ret)
 .skip))
 (.seq
 (.reg false [4] [⟨(some 4), none, false, .mov (.k (.d (.int .i64 (-1))))⟩])
 .ret))
 .skip))
 (.seq
 (.seq
 (.reg false [0, 1, 13] [⟨(some 13), none, false, .mov (.t 6)⟩])
 (.cond (.t 13)
 (.seq
 (.reg false [4] [⟨(some 4), none, false, .mov (.k (.d (.int .i64 1)))⟩])
 .ret)
 .skip))
 (.seq
 (.seq
 (.reg false [0, 1, 16] [⟨(some 14), none, false, .mov (.t 0)⟩,
 ⟨(some 15), none, false, .mov (.t 1)⟩,
 ⟨(some 16), none, false, .bin .lss (.t 14) (.t 15)⟩])
 (.cond (.t 16)
 (.seq
 (.reg false [4] [⟨(some 4), none, false, .mov (.k (.d (.int .i64 (-1))))⟩])
 .ret)
 .skip))
 (.seq
 (.seq
 (.reg false [19] [⟨(some 17), none, false, .mov (.t 0)⟩,
 ⟨(some 18), none, false, .mov (.t 1)⟩,
 ⟨(some 19), none, false, .bin .gtr (.t 17) (.t 18)⟩])
 (.cond (.t 19)
 (.seq
 (.reg false [4] [⟨(some 4), none, false, .mov (.k (.d (.int .i64 1)))⟩])
 .ret)
 .skip))
 (.seq
 (.reg false [4] [⟨(some 4), none, false, .mov (.k (.d (.int .i64 0)))⟩])
 .ret))))))))
theorem c34 : (Go.Proofs.Try.f34).body.bind (comp prog.P (2, (Go.Proofs.Try.f34).ntmps) lv34) = some m34 := by kernel_rfl
theorem r34 : resOK prog.P (Go.Proofs.Try.f34).results.toList = true := by kernel_rfl

/-- laws.szIntS -/
def lv35 : List (Nat × List Nat) := [(0, [0, 1]), (1, [1]), (2, [1, 10]), (3, [4]), (4, [4])]
def m35 : MC :=
  (.seq
 (.reg false [0, 1] [⟨(some 4), none, false, .mov (.k (.d (.int .i64 0)))⟩])
 (.seq
 (.reg false [1] [⟨(some 5), none, false, .mov (.t 1)⟩,
 ⟨(some 6), none, false, .mov (.t 0)⟩,
 ⟨(some 7), none, false, .len false (.t 6)⟩,
 ⟨(some 8), none, false, .bin .sub (.t 5) (.t 7)⟩,
 ⟨(some 1), none, false, .mov (.t 8)⟩])
 (.seq
 (.seq
 (.reg false [1, 10] [⟨(some 9), none, false, .mov (.t 1)⟩,
 ⟨(some 10), none, false, .bin .lss (.t 9) (.k (.d (.int .i64 0)))⟩])
 (.cond (.t 10)
 (.seq
 (.reg false [4] [⟨(some 4), none, false, .mov (.k (.d (.int .i64 (-1))))⟩])
 .ret)
 .skip))
 (.seq
 (.reg false [4] [⟨(some 11), none, false, .mov (.t 1)⟩,
 ⟨(some 4), none, false, .mov (.t 11)⟩])
 .ret))))
theorem c35 : (Go.Proofs.Try.f35).body.bind (comp prog.P (1, (Go.Proofs.Try.f35).ntmps) lv35) = some m35 := by kernel_rfl
theorem r35 : resOK prog.P (Go.Proofs.Try.f35).results.toList = true := by kernel_rfl

/-- spec.l24One -/
def lv36 : List (Nat × List Nat) := [(0, [1]), (1, [1, 43]), (2, [2]), (3, [1, 3]), (4, [1, 3, 48]), (5, [1, 3]), (6, [1, 3, 59]), (7, [2]), (8, [2])]
def m36 : MC :=
  (.seq
 (.reg false [1] [⟨(some 1), none, true, .box (.t 0)⟩,
 ⟨(some 2), none, false, .mov (.k (.d (.bool false)))⟩])
 (.seq
 (.seq
 (.reg false [1, 43] [⟨(some 4), none, false, .fa 0 0 (.t 1)⟩,
 ⟨(some 5), none, false, .ld none (.t 4)⟩,
 ⟨(some 6), none, true, .call 50 [(.t 5), (.k (.d (.int .i64 1))), (.k (.d (.int .i64 999)))]⟩,
 ⟨(some 7), none, false, .un .not (.t 6)⟩,
 ⟨(some 8), none, false, .mov (.t 7)⟩,
 ⟨(some 9), (some (8, false)), false, .fa 1 1 (.t 1)⟩,
 ⟨(some 10), (some (8, false)), false, .ld none (.t 9)⟩,
 ⟨(some 11), (some (8, false)), true, .call 50 [(.t 10), (.k (.d (.int .i64 1))), (.k (.d (.int .i64 999)))]⟩,
 ⟨(some 12), (some (8, false)), false, .un .not (.t 11)⟩,
 ⟨(some 13), none, false, .pick (.t 8) (.k (.d (.bool true))) (.t 12)⟩,
 ⟨(some 14), none, false, .mov (.t 13)⟩,
 ⟨(some 15), (some (14, false)), false, .fa 2 2 (.t 1)⟩,
 ⟨(some 16), (some (14, false)), false, .ld none (.t 15)⟩,
 ⟨(some 17), (some (14, false)), true, .call 54 [(.t 16)]⟩,
 ⟨(some 18), (some (14, false)), false, .un .not (.t 17)⟩,
 ⟨(some 19), none, false, .pick (.t 14) (.k (.d (.bool true))) (.t 18)⟩,
 ⟨(some 20), none, false, .mov (.t 19)⟩,
 ⟨(some 21), (some (20, false)), false, .fa 3 3 (.t 1)⟩,
 ⟨(some 22), (some (20, false)), false, .ld none (.t 21)⟩,
 ⟨(some 23), (some (20, false)), false, .len false (.t 22)⟩,
 ⟨(some 24), (some (20, false)), false, .bin .gtr (.t 23) (.k (.d (.int .i64 6)))⟩,
 ⟨(some 25), none, false, .pick (.t 20) (.k (.d (.bool true))) (.t 24)⟩,
 ⟨(some 26), none, false, .mov (.t 25)⟩,
 ⟨(some 27), (some (26, false)), false, .fa 3 3 (.t 1)⟩,
 ⟨(some 28), (some (26, false)), false, .ld none (.t 27)⟩,
 ⟨(some 29), (some (26, false)), true, .call 55 [(.t 28), (.k (.d (.int .i64 1))), (.k (.d (.int .i64 50)))]⟩,
 ⟨(some 30), (some (26, false)), false, .un .not (.t 29)⟩,
 ⟨(some 31), none, false, .pick (.t 26) (.k (.d (.bool true))) (.t 30)⟩,
 ⟨(some 32), none, false, .mov (.t 31)⟩,
 ⟨(some 33), (some (32, false)), false, .fa 4 4 (.t 1)⟩,
 ⟨(some 34), (some (32, false)), false, .ld none (.t 33)⟩,
 ⟨(some 35), (some (32, false)), true, .call 55 [(.t 34), (.k (.d (.int .i64 1))), (.k (.d (.int .i64 50)))]⟩,
 ⟨(some 36), (some (32, false)), false, .un .not (.t 35)⟩,
 ⟨(some 37), none, false, .pick (.t 32) (.k (.d (.bool true))) (.t 36)⟩,
 ⟨(some 38), none, false, .mov (.t 37)⟩,
 ⟨(some 39), (some (38, false)), false, .fa 5 5 (.t 1)⟩,
 ⟨(some 40), (some (38, false)), false, .ld none (.t 39)⟩,
 ⟨(some 41), (some (38, false)), true, .call 50 [(.t 40), (.k (.d (.int .i64 0))), (.k (.d (.int .i64 4)))]⟩,
 ⟨(some 42), (some (38, false)), false, .un .not (.t 41)⟩,
 ⟨(some 43), none, false, .pick (.t 38) (.k (.d (.bool true))) (.t 42)⟩])
 (.cond (.t 43)
 (.seq
 (.reg false [2] [⟨(some 2), none, false, .mov (.k (.d (.bool false)))⟩])
 .ret)
 .skip))
 (.seq
 (.seq
 (.reg false [1, 3] [⟨(some 3), none, false, .mov (.k (.d (.int .i64 0)))⟩])
 (.block 0
 (.loop
 (.seq
 (.seq
 (.reg false [1, 3, 48] [⟨(some 44), none, false, .mov (.t 3)⟩,
 ⟨(some 45), none, false, .fa 4 4 (.t 1)⟩,
 ⟨(some 46), none, false, .ld none (.t 45)⟩,
 ⟨(some 47), none, false, .len false (.t 46)⟩,
 ⟨(some 48), none, false, .bin .lss (.t 44) (.t 47)⟩])
 (.cond (.t 48)
 .skip
 (.exit 0)))
 (.seq
 (.block 1
 (.seq
 (.reg true [1, 3, 59] [⟨(some 51), none, false, .fa 3 3 (.t 1)⟩,
 ⟨(some 52), none, false, .ld none (.t 51)⟩,
 ⟨(some 53), none, false, .fa 4 4 (.t 1)⟩,
 ⟨(some 54), none, false, .ld none (.t 53)⟩,
 ⟨(some 55), none, false, .mov (.t 3)⟩,
 ⟨(some 56), none, false, .ia 1 (.t 54) (.t 55)⟩,
 ⟨(some 57), none, false, .ld none (.t 56)⟩,
 ⟨(some 58), none, false, .callP 20 [(.t 52), (.t 57)]⟩,
 ⟨(some 59), none, false, .un .not (.t 58)⟩])
 (.cond (.t 59)
 (.seq
 (.reg false [2] [⟨(some 2), none, false, .mov (.k (.d (.bool false)))⟩])
 .ret)
 .skip)))
 (.reg false [1, 3] [⟨(some 49), none, false, .mov (.t 3)⟩,
 ⟨(some 50), none, false, .bin .add (.t 49) (.k (.d (.int .i64 1)))⟩,
 ⟨(some 3), none, false, .mov (.t 50)⟩]))))))
 (.seq
 (.reg false [2] [⟨(some 60), none, false, .fa 5 5 (.t 1)⟩,
 ⟨(some 61), none, false, .ld none (.t 60)⟩,
 ⟨(some 62), none, false, .bin .eql (.t 61) (.k (.d (.int .i64 0)))⟩,
 ⟨(some 63), none, false, .mov (.t 62)⟩,
 ⟨(some 64), (some (63, false)), false, .fa 5 5 (.t 1)⟩,
 ⟨(some 65), (some (63, false)), false, .ld none (.t 64)⟩,
 ⟨(some 66), (some (63, false)), false, .bin .eql (.t 65) (.k (.d (.int .i64 4)))⟩,
 ⟨(some 67), none, false, .pick (.t 63) (.k (.d (.bool true))) (.t 66)⟩,
 ⟨(some 68), none, false, .fa 4 4 (.t 1)⟩,
 ⟨(some 69), none, false, .ld none (.t 68)⟩,
 ⟨(some 70), none, false, .len false (.t 69)⟩,
 ⟨(some 71), none, false, .fa 3 3 (.t 1)⟩,
 ⟨(some 72), none, false, .ld none (.t 71)⟩,
 ⟨(some 73), none, false, .len false (.t 72)⟩,
 ⟨(some 74), none, false, .bin .lss (.t 70) (.t 73)⟩,
 ⟨(some 75), none, false, .bb .eql (.t 67) (.t 74)⟩,
 ⟨(some 2), none, false, .mov (.t 75)⟩])
 .ret))))
theorem c36 : (Go.Proofs.Try.f36).body.bind (comp prog.P (1, (Go.Proofs.Try.f36).ntmps) lv36) = some m36 := by kernel_rfl
theorem r36 : resOK prog.P (Go.Proofs.Try.f36).results.toList = true := by kernel_rfl

/-- spec.l1Own -/
def lv37 : List (Nat × List Nat) := [(0, [0]), (1, [2])]
def m37 : MC :=
  (.seq
 (.reg false [0] [⟨(some 2), none, false, .mov (.k .nil)⟩])
 (.seq
 (.reg false [2] [⟨(some 3), none, true, .bs 1 0 (.int .i64 0) []⟩,
 ⟨(some 4), none, false, .mov (.t 0)⟩,
 ⟨(some 5), none, true, .app 1 8 (.t 3) (.t 4)⟩,
 ⟨(some 2), none, false, .mov (.t 5)⟩])
 .ret))
theorem c37 : (Go.Proofs.Try.f37).body.bind (comp prog.P (1, (Go.Proofs.Try.f37).ntmps) lv37) = some m37 := by kernel_rfl
theorem r37 : resOK prog.P (Go.Proofs.Try.f37).results.toList = true := by kernel_rfl

/-- laws.toIntS -/
def lv38 : List (Nat × List Nat) := [(0, [0]), (1, [0, 3]), (2, [0, 3, 4]), (3, [0, 3, 4, 11]), (4, [0, 3, 4]), (5, [0, 3, 4]), (6, [2])]
def m38 : MC :=
  (.seq
 (.reg false [0] [⟨(some 2), none, false, .mov (.k .nil)⟩])
 (.seq
 (.reg false [0, 3] [⟨(some 5), none, false, .mov (.t 0)⟩,
 ⟨(some 6), none, false, .len false (.t 5)⟩,
 ⟨(some 7), none, true, .mk 1 8 (.int .i64 0) (.t 6)⟩,
 ⟨(some 3), none, false, .mov (.t 7)⟩])
 (.seq
 (.seq
 (.reg false [0, 3, 4] [⟨(some 4), none, false, .mov (.k (.d (.int .i64 0)))⟩])
 (.block 0
 (.loop
 (.seq
 (.seq
 (.reg false [0, 3, 4, 11] [⟨(some 8), none, false, .mov (.t 4)⟩,
 ⟨(some 9), none, false, .mov (.t 0)⟩,
 ⟨(some 10), none, false, .len false (.t 9)⟩,
 ⟨(some 11), none, false, .bin .lss (.t 8) (.t 10)⟩])
 (.cond (.t 11)
 .skip
 (.exit 0)))
 (.seq
 (.block 1
 (.reg false [0, 3, 4] [⟨(some 14), none, false, .mov (.t 3)⟩,
 ⟨(some 15), none, false, .mov (.t 4)⟩,
 ⟨(some 16), none, false, .mov (.t 0)⟩,
 ⟨(some 17), none, false, .mov (.t 4)⟩,
 ⟨(some 18), none, false, .ia 1 (.t 16) (.t 17)⟩,
 ⟨(some 19), none, false, .ld none (.t 18)⟩,
 ⟨(some 20), none, false, .ia 1 (.t 14) (.t 15)⟩,
 ⟨none, none, true, .st 1 (.t 20) (.t 19)⟩]))
 (.reg false [0, 3, 4] [⟨(some 12), none, false, .mov (.t 4)⟩,
 ⟨(some 13), none, false, .bin .add (.t 12) (.k (.d (.int .i64 1)))⟩,
 ⟨(some 4), none, false, .mov (.t 13)⟩]))))))
 (.seq
 (.reg false [2] [⟨(some 21), none, false, .mov (.t 3)⟩,
 ⟨(some 2), none, false, .mov (.t 21)⟩])
 .ret))))
theorem c38 : (Go.Proofs.Try.f38).body.bind (comp prog.P (1, (Go.Proofs.Try.f38).ntmps) lv38) = some m38 := by kernel_rfl
theorem r38 : resOK prog.P (Go.Proofs.Try.f38).results.toList = true := by kernel_rfl

/-- slices.IndexFunc[[]impl.Appeal,impl.Appeal] -/
def lv39 : List (Nat × List Nat) := [(0, [0, 1]), (1, [0, 1, 7, 8]), (2, [0, 1, 7, 8, 9]), (3, [0, 1, 5, 7, 8]), (4, [0, 1, 5, 7, 8, 16]), (5, [4]), (6, [0, 1, 7, 8]), (7, [4])]
def m39 : MC :=
  (.seq
 (.reg false [0, 1] [⟨(some 4), none, false, .mov (.k (.d (.int .i64 0)))⟩])
 (.seq
 (.seq
 (.reg false [0, 1, 7, 8] [⟨(some 6), none, false, .mov (.t 0)⟩,
 ⟨(some 7), none, false, .len false (.t 6)⟩,
 ⟨(some 8), none, false, .mov (.k (.d (.int .i64 0)))⟩])
 (.block 0
 (.loop
 (.seq
 (.reg false [0, 1, 7, 8, 9] [⟨(some 9), none, false, .bin .lss (.t 8) (.t 7)⟩])
 (.seq
 (.cond (.t 9)
 .skip
 (.exit 0))
 (.seq
 (.block 1
 (.seq
 (.reg false [0, 1, 5, 7, 8] [⟨(some 10), none, false, .mov (.t 8)⟩,
 ⟨(some 5), none, false, .mov (.t 10)⟩])
 (.seq
 (.reg false [0, 1, 5, 7, 8, 16] [⟨(some 11), none, false, .mov (.t 1)⟩,
 ⟨(some 12), none, false, .mov (.t 0)⟩,
 ⟨(some 13), none, false, .mov (.t 5)⟩,
 ⟨(some 14), none, false, .ia 6 (.t 12) (.t 13)⟩,
 ⟨(some 15), none, false, .ld (some 6) (.t 14)⟩,
 ⟨(some 16), none, true, .callW (.t 11) [(.t 15)]⟩])
 (.cond (.t 16)
 (.seq
 (.reg false [4] [⟨(some 17), none, false, .mov (.t 5)⟩,
 ⟨(some 4), none, false, .mov (.t 17)⟩])
 .ret)
 .skip))))
 (.reg false [0, 1, 7, 8] [⟨(some 18), none, false, .bin .add (.t 8) (.k (.d (.int .i64 1)))⟩,
 ⟨(some 8), none, false, .mov (.t 18)⟩])))))))
 (.seq
 (.reg false [4] [⟨(some 4), none, false, .mov (.k (.d (.int .i64 (-1))))⟩])
 .ret)))
theorem c39 : (Go.Proofs.Try.f39).body.bind (comp prog.P (2, (Go.Proofs.Try.f39).ntmps) lv39) = some m39 := by kernel_rfl
theorem r39 : resOK prog.P (Go.Proofs.Try.f39).results.toList = true := by kernel_rfl

/-- impl.appealAt$1 -/
def lv40 : List (Nat × List Nat) := [(0, [1, 2]), (1, [3])]
def m40 : MC :=
  (.seq
 (.reg false [1, 2] [⟨(some 2), none, true, .box (.t 0)⟩,
 ⟨(some 3), none, false, .mov (.k (.d (.bool false)))⟩])
 (.seq
 (.reg false [3] [⟨(some 4), none, false, .fa 0 0 (.t 2)⟩,
 ⟨(some 5), none, false, .ld none (.t 4)⟩,
 ⟨(some 6), none, false, .ld none (.t 1)⟩,
 ⟨(some 7), none, false, .bin .eql (.t 5) (.t 6)⟩,
 ⟨(some 3), none, false, .mov (.t 7)⟩])
 .ret))
theorem c40 : (Go.Proofs.Try.f40).body.bind (comp prog.P (2, (Go.Proofs.Try.f40).ntmps) lv40) = some m40 := by kernel_rfl
theorem r40 : resOK prog.P (Go.Proofs.Try.f40).results.toList = true := by kernel_rfl
theorem en40 : enterOK prog.P 40 = true := by kernel_rfl

/-- impl.IsAppeal -/
def lv41 : List (Nat × List Nat) := [(0, [1]), (1, [1, 24]), (2, [2]), (3, [1, 45]), (4, [2]), (5, [1, 49]), (6, [2]), (7, [2])]
def m41 : MC :=
  (.seq
 (.reg false [1] [⟨(some 1), none, true, .box (.t 0)⟩,
 ⟨(some 2), none, false, .mov (.k (.d (.bool false)))⟩])
 (.seq
 (.seq
 (.reg false [1, 24] [⟨(some 3), none, false, .fa 0 0 (.t 1)⟩,
 ⟨(some 4), none, false, .ld none (.t 3)⟩,
 ⟨(some 5), none, true, .call 51 [(.t 4), (.k (.d (.int .i64 1))), (.k (.d (.int .i64 999)))]⟩,
 ⟨(some 6), none, false, .un .not (.t 5)⟩,
 ⟨(some 7), none, false, .mov (.t 6)⟩,
 ⟨(some 8), (some (7, false)), false, .fa 1 1 (.t 1)⟩,
 ⟨(some 9), (some (7, false)), false, .ld none (.t 8)⟩,
 ⟨(some 10), (some (7, false)), true, .call 51 [(.t 9), (.k (.d (.int .i64 1))), (.k (.d (.int .i64 999)))]⟩,
 ⟨(some 11), (some (7, false)), false, .un .not (.t 10)⟩,
 ⟨(some 12), none, false, .pick (.t 7) (.k (.d (.bool true))) (.t 11)⟩,
 ⟨(some 13), none, false, .mov (.t 12)⟩,
 ⟨(some 14), (some (13, false)), false, .fa 2 2 (.t 1)⟩,
 ⟨(some 15), (some (13, false)), false, .ld none (.t 14)⟩,
 ⟨(some 16), (some (13, false)), true, .call 56 [(.t 15)]⟩,
 ⟨(some 17), (some (13, false)), false, .un .not (.t 16)⟩,
 ⟨(some 18), none, false, .pick (.t 13) (.k (.d (.bool true))) (.t 17)⟩,
 ⟨(some 19), none, false, .mov (.t 18)⟩,
 ⟨(some 20), (some (19, false)), false, .fa 5 5 (.t 1)⟩,
 ⟨(some 21), (some (19, false)), false, .ld none (.t 20)⟩,
 ⟨(some 22), (some (19, false)), true, .call 51 [(.t 21), (.k (.d (.int .i64 0))), (.k (.d (.int .i64 4)))]⟩,
 ⟨(some 23), (some (19, false)), false, .un .not (.t 22)⟩,
 ⟨(some 24), none, false, .pick (.t 19) (.k (.d (.bool true))) (.t 23)⟩])
 (.cond (.t 24)
 (.seq
 (.reg false [2] [⟨(some 2), none, false, .mov (.k (.d (.bool false)))⟩])
 .ret)
 .skip))
 (.seq
 (.seq
 (.reg false [1, 45] [⟨(some 25), none, false, .fa 3 3 (.t 1)⟩,
 ⟨(some 26), none, false, .ld none (.t 25)⟩,
 ⟨(some 27), none, false, .len false (.t 26)⟩,
 ⟨(some 28), none, false, .bin .gtr (.t 27) (.k (.d (.int .i64 6)))⟩,
 ⟨(some 29), none, false, .mov (.t 28)⟩,
 ⟨(some 30), (some (29, false)), false, .fa 3 3 (.t 1)⟩,
 ⟨(some 31), (some (29, false)), false, .ld none (.t 30)⟩,
 ⟨(some 32), (some (29, false)), true, .call 57 [(.t 31)]⟩,
 ⟨(some 33), (some (29, false)), false, .un .not (.t 32)⟩,
 ⟨(some 34), none, false, .pick (.t 29) (.k (.d (.bool true))) (.t 33)⟩,
 ⟨(some 35), none, false, .mov (.t 34)⟩,
 ⟨(some 36), (some (35, false)), false, .fa 4 4 (.t 1)⟩,
 ⟨(some 37), (some (35, false)), false, .ld none (.t 36)⟩,
 ⟨(some 38), (some (35, false)), true, .call 57 [(.t 37)]⟩,
 ⟨(some 39), (some (35, false)), false, .un .not (.t 38)⟩,
 ⟨(some 40), none, false, .pick (.t 35) (.k (.d (.bool true))) (.t 39)⟩,
 ⟨(some 41), none, false, .mov (.t 40)⟩,
 ⟨(some 42), (some (41, false)), false, .fa 3 3 (.t 1)⟩,
 ⟨(some 43), (some (41, false)), false, .ld none (.t 42)⟩,
 ⟨(some 44), (some (41, false)), true, .call 58 [(.t 43), (.k (.d (.clo 59 .nil)))]⟩,
 ⟨(some 45), none, false, .pick (.t 41) (.k (.d (.bool true))) (.t 44)⟩])
 (.cond (.t 45)
 (.seq
 (.reg false [2] [⟨(some 2), none, false, .mov (.k (.d (.bool false)))⟩])
 .ret)
 .skip))
 (.seq
 (.seq
 (.reg false [1, 49] [⟨(some 46), none, false, .fa 4 4 (.t 1)⟩,
 ⟨(some 47), none, false, .ld none (.t 46)⟩,
 ⟨(some 48), none, false, .clos 60 [(.t 1)]⟩,
 ⟨(some 49), none, true, .call 58 [(.t 47), (.t 48)]⟩])
 (.cond (.t 49)
 (.seq
 (.reg false [2] [⟨(some 2), none, false, .mov (.k (.d (.bool false)))⟩])
 .ret)
 .skip))
 (.seq
 (.reg false [2] [⟨(some 50), none, false, .fa 4 4 (.t 1)⟩,
 ⟨(some 51), none, false, .ld none (.t 50)⟩,
 ⟨(some 52), none, false, .len false (.t 51)⟩,
 ⟨(some 53), none, false, .fa 3 3 (.t 1)⟩,
 ⟨(some 54), none, false, .ld none (.t 53)⟩,
 ⟨(some 55), none, false, .len false (.t 54)⟩,
 ⟨(some 56), none, false, .bin .lss (.t 52) (.t 55)⟩,
 ⟨(some 57), none, false, .fa 5 5 (.t 1)⟩,
 ⟨(some 58), none, false, .ld none (.t 57)⟩,
 ⟨(some 59), none, false, .bin .eql (.t 58) (.k (.d (.int .i64 0)))⟩,
 ⟨(some 60), none, false, .mov (.t 59)⟩,
 ⟨(some 61), (some (60, false)), false, .fa 5 5 (.t 1)⟩,
 ⟨(some 62), (some (60, false)), false, .ld none (.t 61)⟩,
 ⟨(some 63), (some (60, false)), false, .bin .eql (.t 62) (.k (.d (.int .i64 4)))⟩,
 ⟨(some 64), none, false, .pick (.t 60) (.k (.d (.bool true))) (.t 63)⟩,
 ⟨(some 65), none, false, .bb .eql (.t 56) (.t 64)⟩,
 ⟨(some 2), none, false, .mov (.t 65)⟩])
 .ret)))))
theorem c41 : (Go.Proofs.Try.f41).body.bind (comp prog.P (1, (Go.Proofs.Try.f41).ntmps) lv41) = some m41 := by kernel_rfl
theorem r41 : resOK prog.P (Go.Proofs.Try.f41).results.toList = true := by kernel_rfl

/-- impl.Appeal).isPending -/
def lv42 : List (Nat × List Nat) := [(0, [1]), (1, [2])]
def m42 : MC :=
  (.seq
 (.reg false [1] [⟨(some 1), none, true, .box (.t 0)⟩,
 ⟨(some 2), none, false, .mov (.k (.d (.bool false)))⟩])
 (.seq
 (.reg false [2] [⟨(some 3), none, false, .fa 5 5 (.t 1)⟩,
 ⟨(some 4), none, false, .ld none (.t 3)⟩,
 ⟨(some 5), none, false, .bin .eql (.t 4) (.k (.d (.int .i64 0)))⟩,
 ⟨(some 6), none, false, .mov (.t 5)⟩,
 ⟨(some 7), (some (6, false)), false, .fa 5 5 (.t 1)⟩,
 ⟨(some 8), (some (6, false)), false, .ld none (.t 7)⟩,
 ⟨(some 9), (some (6, false)), false, .bin .eql (.t 8) (.k (.d (.int .i64 1)))⟩,
 ⟨(some 10), none, false, .pick (.t 6) (.k (.d (.bool true))) (.t 9)⟩,
 ⟨(some 2), none, false, .mov (.t 10)⟩])
 .ret))
theorem c42 : (Go.Proofs.Try.f42).body.bind (comp prog.P (1, (Go.Proofs.Try.f42).ntmps) lv42) = some m42 := by kernel_rfl
theorem r42 : resOK prog.P (Go.Proofs.Try.f42).results.toList = true := by kernel_rfl

/-- slices.ContainsFunc[[]impl.Appeal,impl.Appeal] -/
def lv43 : List (Nat × List Nat) := [(0, [0, 1]), (1, [4])]
def m43 : MC :=
  (.seq
 (.reg false [0, 1] [⟨(some 4), none, false, .mov (.k (.d (.bool false)))⟩])
 (.seq
 (.reg false [4] [⟨(some 5), none, false, .mov (.t 0)⟩,
 ⟨(some 6), none, false, .mov (.t 1)⟩,
 ⟨(some 7), none, true, .call 39 [(.t 5), (.t 6)]⟩,
 ⟨(some 8), none, false, .bin .geq (.t 7) (.k (.d (.int .i64 0)))⟩,
 ⟨(some 4), none, false, .mov (.t 8)⟩])
 .ret))
theorem c43 : (Go.Proofs.Try.f43).body.bind (comp prog.P (2, (Go.Proofs.Try.f43).ntmps) lv43) = some m43 := by kernel_rfl
theorem r43 : resOK prog.P (Go.Proofs.Try.f43).results.toList = true := by kernel_rfl

/-- impl.AreAppeals$1 -/
def lv44 : List (Nat × List Nat) := [(0, [1, 2]), (1, [3])]
def m44 : MC :=
  (.seq
 (.reg false [1, 2] [⟨(some 2), none, true, .box (.t 0)⟩,
 ⟨(some 3), none, false, .mov (.k (.d (.bool false)))⟩])
 (.seq
 (.reg false [3] [⟨(some 4), none, false, .fa 1 1 (.t 2)⟩,
 ⟨(some 5), none, false, .ld none (.t 4)⟩,
 ⟨(some 6), none, false, .fa 1 1 (.t 1)⟩,
 ⟨(some 7), none, false, .ld none (.t 6)⟩,
 ⟨(some 8), none, false, .bin .eql (.t 5) (.t 7)⟩,
 ⟨(some 9), none, false, .mov (.t 8)⟩,
 ⟨(some 10), (some (9, true)), false, .ld (some 6) (.t 2)⟩,
 ⟨(some 11), (some (9, true)), true, .call 42 [(.t 10)]⟩,
 ⟨(some 12), none, false, .pick (.t 9) (.t 11) (.k (.d (.bool false)))⟩,
 ⟨(some 3), none, false, .mov (.t 12)⟩])
 .ret))
theorem c44 : (Go.Proofs.Try.f44).body.bind (comp prog.P (2, (Go.Proofs.Try.f44).ntmps) lv44) = some m44 := by kernel_rfl
theorem r44 : resOK prog.P (Go.Proofs.Try.f44).results.toList = true := by kernel_rfl
theorem en44 : enterOK prog.P 44 = true := by kernel_rfl

/-- slices.Contains[[]int,int] -/
def lv45 : List (Nat × List Nat) := [(0, [0, 1]), (1, [4])]
def m45 : MC :=
  (.seq
 (.reg false [0, 1] [⟨(some 4), none, false, .mov (.k (.d (.bool false)))⟩])
 (.seq
 (.reg false [4] [⟨(some 5), none, false, .mov (.t 0)⟩,
 ⟨(some 6), none, false, .mov (.t 1)⟩,
 ⟨(some 7), none, true, .call 61 [(.t 5), (.t 6)]⟩,
 ⟨(some 8), none, false, .bin .geq (.t 7) (.k (.d (.int .i64 0)))⟩,
 ⟨(some 4), none, false, .mov (.t 8)⟩])
 .ret))
theorem c45 : (Go.Proofs.Try.f45).body.bind (comp prog.P (2, (Go.Proofs.Try.f45).ntmps) lv45) = some m45 := by kernel_rfl
theorem r45 : resOK prog.P (Go.Proofs.Try.f45).results.toList = true := by kernel_rfl

/-- slices.Clone[[]impl.Appeal,impl.Appeal] -/
def lv46 : List (Nat × List Nat) := [(0, [0]), (1, [0, 4]), (2, [2]), (3, [2])]
def m46 : MC :=
  (.seq
 (.reg false [0] [⟨(some 2), none, false, .mov (.k .nil)⟩])
 (.seq
 (.seq
 (.reg false [0, 4] [⟨(some 3), none, false, .mov (.t 0)⟩,
 ⟨(some 4), none, true, .snil false (.t 3)⟩])
 (.cond (.t 4)
 (.seq
 (.reg false [2] [⟨(some 2), none, false, .mov (.k .nil)⟩])
 .ret)
 .skip))
 (.seq
 (.reg false [2] [⟨(some 5), none, true, .bs 6 0 (.st (.cons (.int .i64 0) (.cons (.int .i64 0) (.cons (.int .i64 0) (.cons (.sl true 1 .nil) (.cons (.sl true 1 .nil) (.cons (.int .i64 0) .nil))))))) []⟩,
 ⟨(some 6), none, false, .mov (.t 0)⟩,
 ⟨(some 7), none, true, .app 6 80 (.t 5) (.t 6)⟩,
 ⟨(some 2), none, false, .mov (.t 7)⟩])
 .ret)))
theorem c46 : (Go.Proofs.Try.f46).body.bind (comp prog.P (1, (Go.Proofs.Try.f46).ntmps) lv46) = some m46 := by kernel_rfl
theorem r46 : resOK prog.P (Go.Proofs.Try.f46).results.toList = true := by kernel_rfl

/-- slices.Clone[[]int,int] -/
def lv47 : List (Nat × List Nat) := [(0, [0]), (1, [0, 4]), (2, [2]), (3, [2])]
def m47 : MC :=
  (.seq
 (.reg false [0] [⟨(some 2), none, false, .mov (.k .nil)⟩])
 (.seq
 (.seq
 (.reg false [0, 4] [⟨(some 3), none, false, .mov (.t 0)⟩,
 ⟨(some 4), none, true, .snil false (.t 3)⟩])
 (.cond (.t 4)
 (.seq
 (.reg false [2] [⟨(some 2), none, false, .mov (.k .nil)⟩])
 .ret)
 .skip))
 (.seq
 (.reg false [2] [⟨(some 5), none, true, .bs 1 0 (.int .i64 0) []⟩,
 ⟨(some 6), none, false, .mov (.t 0)⟩,
 ⟨(some 7), none, true, .app 1 8 (.t 5) (.t 6)⟩,
 ⟨(some 2), none, false, .mov (.t 7)⟩])
 .ret)))
theorem c47 : (Go.Proofs.Try.f47).body.bind (comp prog.P (1, (Go.Proofs.Try.f47).ntmps) lv47) = some m47 := by kernel_rfl
theorem r47 : resOK prog.P (Go.Proofs.Try.f47).results.toList = true := by kernel_rfl

/-- slices.pdqsortOrdered[int] -/
def lv48 : List (Nat × List Nat) := [(0, [0, 1, 2, 3, 8]), (1, [0, 1, 2, 3, 8, 9]), (2, [0, 1, 2, 3, 8, 9, 10]), (3, [0, 1, 2, 3, 8, 9, 10, 23]), (4, [0]), (5, [0, 1, 2, 3, 8, 9, 10, 29]), (6, [0]), (7, [0, 1, 2, 3, 8, 9, 10, 35]), (8, [0, 1, 2, 3, 8, 9, 10]), (9, [0, 1, 2, 3, 8, 9, 10]), (10, [0, 1, 2, 3, 8, 9, 10, 11, 12]), (11, [0, 1, 2, 3, 8, 9, 10, 11, 12, 50]), (12, [0, 1, 2, 3, 8, 9, 10, 11]), (13, [0, 1, 2, 3, 8, 9, 10, 11]), (14, [0, 1, 2, 3, 8, 9, 10, 11, 12]), (15, [0, 1, 2, 3, 8, 9, 10, 11, 68]), (16, [0, 1, 2, 3, 8, 9, 10, 11, 72]), (17, [0, 1, 2, 3, 8, 9, 10, 11, 87]), (18, [0, 2, 3, 8, 9, 13]), (19, [0, 1, 2, 3, 8, 9]), (20, [0, 1, 2, 3, 10, 14, 15]), (21, [0, 1, 2, 3, 9, 10, 14]), (22, [0, 1, 2, 3, 9, 10, 14, 16, 17]), (23, [0, 1, 2, 3, 9, 14, 16, 17, 18]), (24, [0, 1, 2, 3, 9, 14, 16, 17, 18, 113]), (25, [0, 1, 2, 3, 8, 9, 14]), (26, [0, 2, 3, 8, 9, 14]), (27, [0, 1, 2, 3, 8, 9]), (28, [0, 1, 2, 3, 8, 9, 14]), (29, [0, 1, 3, 8, 9, 14]), (30, [0, 1, 2, 3, 8, 9])]
def m48 : MC :=
  (.seq
 (.reg false [0, 1, 2, 3, 8] [⟨(some 8), none, false, .mov (.k (.d (.bool true)))⟩])
 (.seq
 (.reg false [0, 1, 2, 3, 8, 9] [⟨(some 9), none, false, .mov (.k (.d (.bool true)))⟩])
 (.block 0
 (.loop
 (.block 1
 (.seq
 (.reg false [0, 1, 2, 3, 8, 9, 10] [⟨(some 19), none, false, .mov (.t 2)⟩,
 ⟨(some 20), none, false, .mov (.t 1)⟩,
 ⟨(some 21), none, false, .bin .sub (.t 19) (.t 20)⟩,
 ⟨(some 10), none, false, .mov (.t 21)⟩])
 (.seq
 (.seq
 (.reg false [0, 1, 2, 3, 8, 9, 10, 23] [⟨(some 22), none, false, .mov (.t 10)⟩,
 ⟨(some 23), none, false, .bin .leq (.t 22) (.k (.d (.int .i64 12)))⟩])
 (.cond (.t 23)
 (.seq
 (.reg false [0] [⟨(some 24), none, false, .mov (.t 0)⟩,
 ⟨(some 25), none, false, .mov (.t 1)⟩,
 ⟨(some 26), none, false, .mov (.t 2)⟩,
 ⟨(some 27), none, true, .call 62 [(.t 24), (.t 25), (.t 26)]⟩])
 .ret)
 .skip))
 (.seq
 (.seq
 (.reg false [0, 1, 2, 3, 8, 9, 10, 29] [⟨(some 28), none, false, .mov (.t 3)⟩,
 ⟨(some 29), none, false, .bin .eql (.t 28) (.k (.d (.int .i64 0)))⟩])
 (.cond (.t 29)
 (.seq
 (.reg false [0] [⟨(some 30), none, false, .mov (.t 0)⟩,
 ⟨(some 31), none, false, .mov (.t 1)⟩,
 ⟨(some 32), none, false, .mov (.t 2)⟩,
 ⟨(some 33), none, true, .call 63 [(.t 30), (.t 31), (.t 32)]⟩])
 .ret)
 .skip))
 (.seq
 (.seq
 (.reg false [0, 1, 2, 3, 8, 9, 10, 35] [⟨(some 34), none, false, .mov (.t 8)⟩,
 ⟨(some 35), none, false, .un .not (.t 34)⟩])
 (.cond (.t 35)
 (.seq
 (.reg false [0, 1, 2, 3, 8, 9, 10] [⟨(some 36), none, false, .mov (.t 0)⟩,
 ⟨(some 37), none, false, .mov (.t 1)⟩,
 ⟨(some 38), none, false, .mov (.t 2)⟩,
 ⟨(some 39), none, true, .call 64 [(.t 36), (.t 37), (.t 38)]⟩])
 (.reg false [0, 1, 2, 3, 8, 9, 10] [⟨(some 40), none, false, .mov (.t 3)⟩,
 ⟨(some 41), none, false, .bin .sub (.t 40) (.k (.d (.int .i64 1)))⟩,
 ⟨(some 3), none, false, .mov (.t 41)⟩]))
 .skip))
 (.seq
 (.reg false [0, 1, 2, 3, 8, 9, 10, 11, 12] [⟨(some 43), none, false, .mov (.t 0)⟩,
 ⟨(some 44), none, false, .mov (.t 1)⟩,
 ⟨(some 45), none, false, .mov (.t 2)⟩,
 ⟨(some 46), none, true, .call 65 [(.t 43), (.t 44), (.t 45)]⟩,
 ⟨(some 42), none, false, .mov (.t 46)⟩,
 ⟨(some 47), none, false, .ext (.t 42) 0⟩,
 ⟨(some 48), none, false, .ext (.t 42) 1⟩,
 ⟨(some 11), none, false, .mov (.t 47)⟩,
 ⟨(some 12), none, false, .mov (.t 48)⟩])
 (.seq
 (.seq
 (.reg false [0, 1, 2, 3, 8, 9, 10, 11, 12, 50] [⟨(some 49), none, false, .mov (.t 12)⟩,
 ⟨(some 50), none, false, .bin .eql (.t 49) (.k (.d (.int .i64 2)))⟩])
 (.cond (.t 50)
 (.seq
 (.reg false [0, 1, 2, 3, 8, 9, 10, 11] [⟨(some 51), none, false, .mov (.t 0)⟩,
 ⟨(some 52), none, false, .mov (.t 1)⟩,
 ⟨(some 53), none, false, .mov (.t 2)⟩,
 ⟨(some 54), none, true, .call 66 [(.t 51), (.t 52), (.t 53)]⟩])
 (.seq
 (.reg false [0, 1, 2, 3, 8, 9, 10, 11] [⟨(some 55), none, false, .mov (.t 2)⟩,
 ⟨(some 56), none, false, .bin .sub (.t 55) (.k (.d (.int .i64 1)))⟩,
 ⟨(some 57), none, false, .mov (.t 11)⟩,
 ⟨(some 58), none, false, .mov (.t 1)⟩,
 ⟨(some 59), none, false, .bin .sub (.t 57) (.t 58)⟩,
 ⟨(some 60), none, false, .bin .sub (.t 56) (.t 59)⟩,
 ⟨(some 11), none, false, .mov (.t 60)⟩])
 (.reg false [0, 1, 2, 3, 8, 9, 10, 11, 12] [⟨(some 12), none, false, .mov (.k (.d (.int .i64 1)))⟩])))
 .skip))
 (.seq
 (.seq
 (.reg false [0, 1, 2, 3, 8, 9, 10, 11, 68] [⟨(some 61), none, false, .mov (.t 8)⟩,
 ⟨(some 62), none, false, .mov (.t 61)⟩,
 ⟨(some 63), (some (62, true)), false, .mov (.t 9)⟩,
 ⟨(some 64), none, false, .pick (.t 62) (.t 63) (.k (.d (.bool false)))⟩,
 ⟨(some 65), none, false, .mov (.t 64)⟩,
 ⟨(some 66), (some (65, true)), false, .mov (.t 12)⟩,
 ⟨(some 67), (some (65, true)), false, .bin .eql (.t 66) (.k (.d (.int .i64 1)))⟩,
 ⟨(some 68), none, false, .pick (.t 65) (.t 67) (.k (.d (.bool false)))⟩])
 (.cond (.t 68)
 (.seq
 (.reg false [0, 1, 2, 3, 8, 9, 10, 11, 72] [⟨(some 69), none, false, .mov (.t 0)⟩,
 ⟨(some 70), none, false, .mov (.t 1)⟩,
 ⟨(some 71), none, false, .mov (.t 2)⟩,
 ⟨(some 72), none, true, .call 67 [(.t 69), (.t 70), (.t 71)]⟩])
 (.cond (.t 72)
 .ret
 .skip))
 .skip))
 (.seq
 (.seq
 (.reg true [0, 1, 2, 3, 8, 9, 10, 11, 87] [⟨(some 73), none, false, .mov (.t 1)⟩,
 ⟨(some 74), none, false, .bin .gtr (.t 73) (.k (.d (.int .i64 0)))⟩,
 ⟨(some 75), none, false, .mov (.t 74)⟩,
 ⟨(some 76), (some (75, true)), false, .mov (.t 0)⟩,
 ⟨(some 77), (some (75, true)), false, .mov (.t 1)⟩,
 ⟨(some 78), (some (75, true)), false, .bin .sub (.t 77) (.k (.d (.int .i64 1)))⟩,
 ⟨(some 79), (some (75, true)), false, .ia 1 (.t 76) (.t 78)⟩,
 ⟨(some 80), (some (75, true)), false, .ld none (.t 79)⟩,
 ⟨(some 81), (some (75, true)), false, .mov (.t 0)⟩,
 ⟨(some 82), (some (75, true)), false, .mov (.t 11)⟩,
 ⟨(some 83), (some (75, true)), false, .ia 1 (.t 81) (.t 82)⟩,
 ⟨(some 84), (some (75, true)), false, .ld none (.t 83)⟩,
 ⟨(some 85), (some (75, true)), false, .callP 68 [(.t 80), (.t 84)]⟩,
 ⟨(some 86), (some (75, true)), false, .un .not (.t 85)⟩,
 ⟨(some 87), none, false, .pick (.t 75) (.t 86) (.k (.d (.bool false)))⟩])
 (.cond (.t 87)
 (.seq
 (.reg false [0, 2, 3, 8, 9, 13] [⟨(some 88), none, false, .mov (.t 0)⟩,
 ⟨(some 89), none, false, .mov (.t 1)⟩,
 ⟨(some 90), none, false, .mov (.t 2)⟩,
 ⟨(some 91), none, false, .mov (.t 11)⟩,
 ⟨(some 92), none, true, .call 69 [(.t 88), (.t 89), (.t 90), (.t 91)]⟩,
 ⟨(some 13), none, false, .mov (.t 92)⟩])
 (.seq
 (.reg false [0, 1, 2, 3, 8, 9] [⟨(some 93), none, false, .mov (.t 13)⟩,
 ⟨(some 1), none, false, .mov (.t 93)⟩])
 (.exit 1)))
 .skip))
 (.seq
 (.reg false [0, 1, 2, 3, 10, 14, 15] [⟨(some 95), none, false, .mov (.t 0)⟩,
 ⟨(some 96), none, false, .mov (.t 1)⟩,
 ⟨(some 97), none, false, .mov (.t 2)⟩,
 ⟨(some 98), none, false, .mov (.t 11)⟩,
 ⟨(some 99), none, true, .call 70 [(.t 95), (.t 96), (.t 97), (.t 98)]⟩,
 ⟨(some 94), none, false, .mov (.t 99)⟩,
 ⟨(some 100), none, false, .ext (.t 94) 0⟩,
 ⟨(some 101), none, false, .ext (.t 94) 1⟩,
 ⟨(some 14), none, false, .mov (.t 100)⟩,
 ⟨(some 15), none, false, .mov (.t 101)⟩])
 (.seq
 (.reg false [0, 1, 2, 3, 9, 10, 14] [⟨(some 102), none, false, .mov (.t 15)⟩,
 ⟨(some 9), none, false, .mov (.t 102)⟩])
 (.seq
 (.reg false [0, 1, 2, 3, 9, 10, 14, 16, 17] [⟨(some 103), none, false, .mov (.t 14)⟩,
 ⟨(some 104), none, false, .mov (.t 1)⟩,
 ⟨(some 105), none, false, .bin .sub (.t 103) (.t 104)⟩,
 ⟨(some 106), none, false, .mov (.t 2)⟩,
 ⟨(some 107), none, false, .mov (.t 14)⟩,
 ⟨(some 108), none, false, .bin .sub (.t 106) (.t 107)⟩,
 ⟨(some 16), none, false, .mov (.t 105)⟩,
 ⟨(some 17), none, false, .mov (.t 108)⟩])
 (.seq
 (.reg false [0, 1, 2, 3, 9, 14, 16, 17, 18] [⟨(some 109), none, false, .mov (.t 10)⟩,
 ⟨(some 110), none, false, .bin .quo (.t 109) (.k (.d (.int .i64 8)))⟩,
 ⟨(some 18), none, false, .mov (.t 110)⟩])
 (.seq
 (.reg false [0, 1, 2, 3, 9, 14, 16, 17, 18, 113] [⟨(some 111), none, false, .mov (.t 16)⟩,
 ⟨(some 112), none, false, .mov (.t 17)⟩,
 ⟨(some 113), none, false, .bin .lss (.t 111) (.t 112)⟩])
 (.cond (.t 113)
 (.seq
 (.reg false [0, 1, 2, 3, 8, 9, 14] [⟨(some 114), none, false, .mov (.t 16)⟩,
 ⟨(some 115), none, false, .mov (.t 18)⟩,
 ⟨(some 116), none, false, .bin .geq (.t 114) (.t 115)⟩,
 ⟨(some 8), none, false, .mov (.t 116)⟩])
 (.seq
 (.reg false [0, 2, 3, 8, 9, 14] [⟨(some 117), none, false, .mov (.t 0)⟩,
 ⟨(some 118), none, false, .mov (.t 1)⟩,
 ⟨(some 119), none, false, .mov (.t 14)⟩,
 ⟨(some 120), none, false, .mov (.t 3)⟩,
 ⟨(some 121), none, true, .call 48 [(.t 117), (.t 118), (.t 119), (.t 120)]⟩])
 (.reg false [0, 1, 2, 3, 8, 9] [⟨(some 122), none, false, .mov (.t 14)⟩,
 ⟨(some 123), none, false, .bin .add (.t 122) (.k (.d (.int .i64 1)))⟩,
 ⟨(some 1), none, false, .mov (.t 123)⟩])))
 (.seq
 (.reg false [0, 1, 2, 3, 8, 9, 14] [⟨(some 124), none, false, .mov (.t 17)⟩,
 ⟨(some 125), none, false, .mov (.t 18)⟩,
 ⟨(some 126), none, false, .bin .geq (.t 124) (.t 125)⟩,
 ⟨(some 8), none, false, .mov (.t 126)⟩])
 (.seq
 (.reg false [0, 1, 3, 8, 9, 14] [⟨(some 127), none, false, .mov (.t 0)⟩,
 ⟨(some 128), none, false, .mov (.t 14)⟩,
 ⟨(some 129), none, false, .bin .add (.t 128) (.k (.d (.int .i64 1)))⟩,
 ⟨(some 130), none, false, .mov (.t 2)⟩,
 ⟨(some 131), none, false, .mov (.t 3)⟩,
 ⟨(some 132), none, true, .call 48 [(.t 127), (.t 129), (.t 130), (.t 131)]⟩])
 (.reg false [0, 1, 2, 3, 8, 9] [⟨(some 133), none, false, .mov (.t 14)⟩,
 ⟨(some 2), none, false, .mov (.t 133)⟩]))))))))))))))))))))))
theorem c48 : (Go.Proofs.Try.f48).body.bind (comp prog.P (1, (Go.Proofs.Try.f48).ntmps) lv48) = some m48 := by kernel_rfl
theorem r48 : resOK prog.P (Go.Proofs.Try.f48).results.toList = true := by kernel_rfl

/-- bits.Len -/
def lv49 : List (Nat × List Nat) := [(0, [0]), (1, [2]), (2, [2])]
def m49 : MC :=
  (.seq
 (.reg false [0] [⟨(some 2), none, false, .mov (.k (.d (.int .i64 0)))⟩])
 (.seq
 (.cond (.k (.d (.bool false)))
 (.seq
 (.reg false [2] [⟨(some 3), none, false, .mov (.t 0)⟩,
 ⟨(some 4), none, false, .conv .u32 (.t 3)⟩,
 ⟨(some 5), none, true, .call 71 [(.t 4)]⟩,
 ⟨(some 2), none, false, .mov (.t 5)⟩])
 .ret)
 .skip)
 (.seq
 (.reg false [2] [⟨(some 6), none, false, .mov (.t 0)⟩,
 ⟨(some 7), none, true, .call 72 [(.t 6)]⟩,
 ⟨(some 2), none, false, .mov (.t 7)⟩])
 .ret)))
theorem c49 : (Go.Proofs.Try.f49).body.bind (comp prog.P (1, (Go.Proofs.Try.f49).ntmps) lv49) = some m49 := by kernel_rfl
theorem r49 : resOK prog.P (Go.Proofs.Try.f49).results.toList = true := by kernel_rfl

/-- spec.l1In -/
def lv50 : List (Nat × List Nat) := [(0, [0, 1, 2]), (1, [6])]
def m50 : MC :=
  (.seq
 (.reg false [0, 1, 2] [⟨(some 6), none, false, .mov (.k (.d (.bool false)))⟩])
 (.seq
 (.reg false [6] [⟨(some 7), none, false, .mov (.t 0)⟩,
 ⟨(some 8), none, false, .mov (.t 1)⟩,
 ⟨(some 9), none, false, .bin .geq (.t 7) (.t 8)⟩,
 ⟨(some 10), none, false, .mov (.t 9)⟩,
 ⟨(some 11), (some (10, true)), false, .mov (.t 0)⟩,
 ⟨(some 12), (some (10, true)), false, .mov (.t 2)⟩,
 ⟨(some 13), (some (10, true)), false, .bin .leq (.t 11) (.t 12)⟩,
 ⟨(some 14), none, false, .pick (.t 10) (.t 13) (.k (.d (.bool false)))⟩,
 ⟨(some 6), none, false, .mov (.t 14)⟩])
 .ret))
theorem c50 : (Go.Proofs.Try.f50).body.bind (comp prog.P (3, (Go.Proofs.Try.f50).ntmps) lv50) = some m50 := by kernel_rfl
theorem r50 : resOK prog.P (Go.Proofs.Try.f50).results.toList = true := by kernel_rfl

/-- impl.within -/
def lv51 : List (Nat × List Nat) := [(0, [0, 1, 2]), (1, [6])]
def m51 : MC :=
  (.seq
 (.reg false [0, 1, 2] [⟨(some 6), none, false, .mov (.k (.d (.bool false)))⟩])
 (.seq
 (.reg false [6] [⟨(some 7), none, false, .mov (.t 1)⟩,
 ⟨(some 8), none, false, .mov (.t 0)⟩,
 ⟨(some 9), none, false, .bin .leq (.t 7) (.t 8)⟩,
 ⟨(some 10), none, false, .mov (.t 9)⟩,
 ⟨(some 11), (some (10, true)), false, .mov (.t 0)⟩,
 ⟨(some 12), (some (10, true)), false, .mov (.t 2)⟩,
 ⟨(some 13), (some (10, true)), false, .bin .leq (.t 11) (.t 12)⟩,
 ⟨(some 14), none, false, .pick (.t 10) (.t 13) (.k (.d (.bool false)))⟩,
 ⟨(some 6), none, false, .mov (.t 14)⟩])
 .ret))
theorem c51 : (Go.Proofs.Try.f51).body.bind (comp prog.P (3, (Go.Proofs.Try.f51).ntmps) lv51) = some m51 := by kernel_rfl
theorem r51 : resOK prog.P (Go.Proofs.Try.f51).results.toList = true := by kernel_rfl

/-- slices.stableCmpFunc[impl.Appeal] -/
def lv52 : List (Nat × List Nat) := [(0, [0, 1, 2, 6]), (1, [0, 1, 2, 6, 7, 8]), (2, [0, 1, 2, 6, 7, 8, 13]), (3, [0, 1, 2, 6, 8]), (4, [0, 1, 2, 6, 7, 8]), (5, [0, 1, 2, 6, 7, 8]), (6, [0, 1, 2, 6]), (7, [0, 1, 2, 6, 30]), (8, [0, 1, 2, 6, 7, 8]), (9, [0, 1, 2, 6, 7, 8, 35]), (10, [0, 1, 2, 6, 8]), (11, [0, 1, 2, 6, 7, 8]), (12, [0, 1, 2, 6, 7, 8]), (13, [0, 1, 2, 6, 7, 9]), (14, [0, 1, 2, 6, 7, 9, 54]), (15, [0, 1, 2, 6]), (16, [0, 1, 2, 6])]
def m52 : MC :=
  (.seq
 (.reg false [0, 1, 2, 6] [⟨(some 6), none, false, .mov (.k (.d (.int .i64 20)))⟩])
 (.seq
 (.reg false [0, 1, 2, 6, 7, 8] [⟨(some 10), none, false, .mov (.t 6)⟩,
 ⟨(some 7), none, false, .mov (.k (.d (.int .i64 0)))⟩,
 ⟨(some 8), none, false, .mov (.t 10)⟩])
 (.seq
 (.block 0
 (.loop
 (.seq
 (.seq
 (.reg false [0, 1, 2, 6, 7, 8, 13] [⟨(some 11), none, false, .mov (.t 8)⟩,
 ⟨(some 12), none, false, .mov (.t 1)⟩,
 ⟨(some 13), none, false, .bin .leq (.t 11) (.t 12)⟩])
 (.cond (.t 13)
 .skip
 (.exit 0)))
 (.block 1
 (.seq
 (.reg false [0, 1, 2, 6, 8] [⟨(some 14), none, false, .mov (.t 0)⟩,
 ⟨(some 15), none, false, .mov (.t 7)⟩,
 ⟨(some 16), none, false, .mov (.t 8)⟩,
 ⟨(some 17), none, false, .mov (.t 2)⟩,
 ⟨(some 18), none, true, .call 73 [(.t 14), (.t 15), (.t 16), (.t 17)]⟩])
 (.seq
 (.reg false [0, 1, 2, 6, 7, 8] [⟨(some 19), none, false, .mov (.t 8)⟩,
 ⟨(some 7), none, false, .mov (.t 19)⟩])
 (.reg false [0, 1, 2, 6, 7, 8] [⟨(some 20), none, false, .mov (.t 8)⟩,
 ⟨(some 21), none, false, .mov (.t 6)⟩,
 ⟨(some 22), none, false, .bin .add (.t 20) (.t 21)⟩,
 ⟨(some 8), none, false, .mov (.t 22)⟩])))))))
 (.seq
 (.reg false [0, 1, 2, 6] [⟨(some 23), none, false, .mov (.t 0)⟩,
 ⟨(some 24), none, false, .mov (.t 7)⟩,
 ⟨(some 25), none, false, .mov (.t 1)⟩,
 ⟨(some 26), none, false, .mov (.t 2)⟩,
 ⟨(some 27), none, true, .call 73 [(.t 23), (.t 24), (.t 25), (.t 26)]⟩])
 (.block 2
 (.loop
 (.seq
 (.seq
 (.reg false [0, 1, 2, 6, 30] [⟨(some 28), none, false, .mov (.t 6)⟩,
 ⟨(some 29), none, false, .mov (.t 1)⟩,
 ⟨(some 30), none, false, .bin .lss (.t 28) (.t 29)⟩])
 (.cond (.t 30)
 .skip
 (.exit 2)))
 (.block 3
 (.seq
 (.reg false [0, 1, 2, 6, 7, 8] [⟨(some 31), none, false, .mov (.t 6)⟩,
 ⟨(some 32), none, false, .bin .mul (.k (.d (.int .i64 2))) (.t 31)⟩,
 ⟨(some 7), none, false, .mov (.k (.d (.int .i64 0)))⟩,
 ⟨(some 8), none, false, .mov (.t 32)⟩])
 (.seq
 (.block 4
 (.loop
 (.seq
 (.seq
 (.reg false [0, 1, 2, 6, 7, 8, 35] [⟨(some 33), none, false, .mov (.t 8)⟩,
 ⟨(some 34), none, false, .mov (.t 1)⟩,
 ⟨(some 35), none, false, .bin .leq (.t 33) (.t 34)⟩])
 (.cond (.t 35)
 .skip
 (.exit 4)))
 (.block 5
 (.seq
 (.reg false [0, 1, 2, 6, 8] [⟨(some 36), none, false, .mov (.t 0)⟩,
 ⟨(some 37), none, false, .mov (.t 7)⟩,
 ⟨(some 38), none, false, .mov (.t 7)⟩,
 ⟨(some 39), none, false, .mov (.t 6)⟩,
 ⟨(some 40), none, false, .bin .add (.t 38) (.t 39)⟩,
 ⟨(some 41), none, false, .mov (.t 8)⟩,
 ⟨(some 42), none, false, .mov (.t 2)⟩,
 ⟨(some 43), none, true, .call 74 [(.t 36), (.t 37), (.t 40), (.t 41), (.t 42)]⟩])
 (.seq
 (.reg false [0, 1, 2, 6, 7, 8] [⟨(some 44), none, false, .mov (.t 8)⟩,
 ⟨(some 7), none, false, .mov (.t 44)⟩])
 (.reg false [0, 1, 2, 6, 7, 8] [⟨(some 45), none, false, .mov (.t 8)⟩,
 ⟨(some 46), none, false, .mov (.t 6)⟩,
 ⟨(some 47), none, false, .bin .mul (.k (.d (.int .i64 2))) (.t 46)⟩,
 ⟨(some 48), none, false, .bin .add (.t 45) (.t 47)⟩,
 ⟨(some 8), none, false, .mov (.t 48)⟩])))))))
 (.seq
 (.seq
 (.reg false [0, 1, 2, 6, 7, 9] [⟨(some 49), none, false, .mov (.t 7)⟩,
 ⟨(some 50), none, false, .mov (.t 6)⟩,
 ⟨(some 51), none, false, .bin .add (.t 49) (.t 50)⟩,
 ⟨(some 9), none, false, .mov (.t 51)⟩])
 (.seq
 (.reg false [0, 1, 2, 6, 7, 9, 54] [⟨(some 52), none, false, .mov (.t 9)⟩,
 ⟨(some 53), none, false, .mov (.t 1)⟩,
 ⟨(some 54), none, false, .bin .lss (.t 52) (.t 53)⟩])
 (.cond (.t 54)
 (.reg false [0, 1, 2, 6] [⟨(some 55), none, false, .mov (.t 0)⟩,
 ⟨(some 56), none, false, .mov (.t 7)⟩,
 ⟨(some 57), none, false, .mov (.t 9)⟩,
 ⟨(some 58), none, false, .mov (.t 1)⟩,
 ⟨(some 59), none, false, .mov (.t 2)⟩,
 ⟨(some 60), none, true, .call 74 [(.t 55), (.t 56), (.t 57), (.t 58), (.t 59)]⟩])
 .skip)))
 (.reg false [0, 1, 2, 6] [⟨(some 61), none, false, .mov (.t 6)⟩,
 ⟨(some 62), none, false, .bin .mul (.t 61) (.k (.d (.int .i64 2)))⟩,
 ⟨(some 6), none, false, .mov (.t 62)⟩]))))))))))))
theorem c52 : (Go.Proofs.Try.f52).body.bind (comp prog.P (3, (Go.Proofs.Try.f52).ntmps) lv52) = some m52 := by kernel_rfl
theorem r52 : resOK prog.P (Go.Proofs.Try.f52).results.toList = true := by kernel_rfl

/-- cmp.isNaN[int] -/
def lv53 : List (Nat × List Nat) := [(0, [0]), (1, [2])]
def m53 : MC :=
  (.seq
 (.reg false [0] [⟨(some 2), none, false, .mov (.k (.d (.bool false)))⟩])
 (.seq
 (.reg false [2] [⟨(some 3), none, false, .mov (.t 0)⟩,
 ⟨(some 4), none, false, .mov (.t 0)⟩,
 ⟨(some 5), none, false, .bin .neq (.t 3) (.t 4)⟩,
 ⟨(some 2), none, false, .mov (.t 5)⟩])
 .ret))
theorem c53 : (Go.Proofs.Try.f53).body.bind (comp prog.P (1, (Go.Proofs.Try.f53).ntmps) lv53) = some m53 := by kernel_rfl
theorem r53 : resOK prog.P (Go.Proofs.Try.f53).results.toList = true := by kernel_rfl

/-- spec.l2Day -/
def lv54 : List (Nat × List Nat) := [(0, [0]), (1, [2])]
def m54 : MC :=
  (.seq
 (.reg false [0] [⟨(some 2), none, false, .mov (.k (.d (.bool false)))⟩])
 (.seq
 (.reg false [2] [⟨(some 3), none, false, .mov (.t 0)⟩,
 ⟨(some 4), none, true, .call 50 [(.t 3), (.k (.d (.int .i64 0))), (.k (.d (.int .i64 20000)))]⟩,
 ⟨(some 2), none, false, .mov (.t 4)⟩])
 .ret))
theorem c54 : (Go.Proofs.Try.f54).body.bind (comp prog.P (1, (Go.Proofs.Try.f54).ntmps) lv54) = some m54 := by kernel_rfl
theorem r54 : resOK prog.P (Go.Proofs.Try.f54).results.toList = true := by kernel_rfl

end Go.Pe.Try
