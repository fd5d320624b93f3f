/-
The compact code of the functions that the law reaches, printed by gen.py, each with the proof that the machine's code is compiled to it.
-/
import Derived.Test.YtfndpmdjidenpaaMc1
import Derived.Test.YtfndpmdjidenpaaProg
import Derived.KernelRfl
set_option maxRecDepth 100000
namespace Go.Pe.Try
open Go.Pe

/-- laws.toIntS -/
def lv33 : List (Nat × List Nat) := [(0, [0]), (1, [0, 3]), (2, [0, 3, 4]), (3, [0, 3, 4, 11]), (4, [0, 3, 4]), (5, [0, 3, 4]), (6, [2])]
def m33 : MC :=
  (.seq
 (.reg false [0] [⟨(some 2), none, false, .mov (.k .nil)⟩])
 (.seq
 (.reg false [0, 3] [⟨(some 5), none, false, .mov (.t 0)⟩,
 ⟨(some 6), none, false, .len false (.t 5)⟩,
 ⟨(some 7), none, true, .mk 1 8 (.int .i64 0) (.t 6)⟩,
 ⟨(some 3), none, false, .mov (.t 7)⟩])
 (.seq
 (.seq
 (.reg false [0, 3, 4] [⟨(some 4), none, false, .mov (.k (.d (.int .i64 0)))⟩])
 (.block 0
 (.loop
 (.seq
 (.seq
 (.reg false [0, 3, 4, 11] [⟨(some 8), none, false, .mov (.t 4)⟩,
 ⟨(some 9), none, false, .mov (.t 0)⟩,
 ⟨(some 10), none, false, .len false (.t 9)⟩,
 ⟨(some 11), none, false, .bin .lss (.t 8) (.t 10)⟩])
 (.cond (.t 11)
 .skip
 (.exit 0)))
 (.seq
 (.block 1
 (.reg false [0, 3, 4] [⟨(some 14), none, false, .mov (.t 3)⟩,
 ⟨(some 15), none, false, .mov (.t 4)⟩,
 ⟨(some 16), none, false, .mov (.t 0)⟩,
 ⟨(some 17), none, false, .mov (.t 4)⟩,
 ⟨(some 18), none, false, .ia 1 (.t 16) (.t 17)⟩,
 ⟨(some 19), none, false, .ld none (.t 18)⟩,
 ⟨(some 20), none, false, .ia 1 (.t 14) (.t 15)⟩,
 ⟨none, none, true, .st 1 (.t 20) (.t 19)⟩]))
 (.reg false [0, 3, 4] [⟨(some 12), none, false, .mov (.t 4)⟩,
 ⟨(some 13), none, false, .bin .add (.t 12) (.k (.d (.int .i64 1)))⟩,
 ⟨(some 4), none, false, .mov (.t 13)⟩]))))))
 (.seq
 (.reg false [2] [⟨(some 21), none, false, .mov (.t 3)⟩,
 ⟨(some 2), none, false, .mov (.t 21)⟩])
 .ret))))
theorem c33 : (Go.Proofs.Try.f33).body.bind (comp prog.P (1, (Go.Proofs.Try.f33).ntmps) lv33) = some m33 := by kernel_rfl
theorem r33 : resOK prog.P (Go.Proofs.Try.f33).results.toList = true := by kernel_rfl

/-- impl.NewAppeal -/
def lv34 : List (Nat × List Nat) := [(0, [0, 1, 2, 3]), (1, [0, 1, 2, 3, 15]), (2, [8, 9, 10]), (3, [0, 3, 11]), (4, [0, 3, 11, 23]), (5, [0, 3, 11]), (6, [0, 11, 35]), (7, [0, 11]), (8, [11, 12]), (9, [11, 12, 44]), (10, [8, 9, 10]), (11, [8, 9, 10]), (1000008, [0, 1, 0, 1, 2, 3, 2, 1, 2, 3, 2, 4, 1, 5, 0, 2, 3, 2, 1, 2, 4, 1, 5, 0])]
def m34 : MC :=
  (.seq
 (.reg false [0, 1, 2, 3] [⟨(some 8), none, false, .mov (.k .nil)⟩,
 ⟨(some 9), none, false, .mov (.k (.d (.int .i64 0)))⟩,
 ⟨(some 10), none, false, .mov (.k (.d (.bool false)))⟩])
 (.seq
 (.seq
 (.reg false [0, 1, 2, 3, 15] [⟨(some 13), none, false, .mov (.t 0)⟩,
 ⟨(some 14), none, true, .call 15 [(.t 13)]⟩,
 ⟨(some 15), none, false, .un .not (.t 14)⟩])
 (.cond (.t 15)
 (.seq
 (.reg false [8, 9, 10] [⟨(some 8), none, false, .mov (.k .nil)⟩,
 ⟨(some 9), none, false, .mov (.k (.d (.int .i64 0)))⟩,
 ⟨(some 10), none, false, .mov (.k (.d (.bool false)))⟩])
 .ret)
 .skip))
 (.seq
 (.reg false [0, 3, 11] [⟨(some 16), none, false, .mov (.t 1)⟩,
 ⟨(some 17), none, false, .mov (.t 2)⟩,
 ⟨(some 18), none, false, .mov (.t 3)⟩,
 ⟨(some 19), none, true, .call 71 [(.t 18)]⟩,
 ⟨(some 20), none, true, .bld (.cons (.int .i64 0) (.cons (.int .i64 0) (.cons (.int .i64 0) (.cons (.sl true 1 .nil) (.cons (.sl true 1 .nil) (.cons (.int .i64 0) .nil)))))) [(0, (.k (.d (.int .i64 1)))), (1, (.t 16)), (2, (.t 17)), (3, (.t 19))]⟩,
 ⟨(some 11), none, true, .alloc (.st (.cons (.int .i64 0) (.cons (.int .i64 0) (.cons (.int .i64 0) (.cons (.sl true 1 .nil) (.cons (.sl true 1 .nil) (.cons (.int .i64 0) .nil)))))))⟩,
 ⟨none, none, true, .st 6 (.t 11) (.t 20)⟩])
 (.seq
 (.seq
 (.reg false [0, 3, 11, 23] [⟨(some 21), none, false, .mov (.t 0)⟩,
 ⟨(some 22), none, false, .len false (.t 21)⟩,
 ⟨(some 23), none, false, .bin .gtr (.t 22) (.k (.d (.int .i64 0)))⟩])
 (.cond (.t 23)
 (.reg false [0, 3, 11] [⟨(some 24), none, false, .mov (.t 0)⟩,
 ⟨(some 25), none, false, .mov (.t 0)⟩,
 ⟨(some 26), none, false, .len false (.t 25)⟩,
 ⟨(some 27), none, false, .bin .sub (.t 26) (.k (.d (.int .i64 1)))⟩,
 ⟨(some 28), none, false, .ia 6 (.t 24) (.t 27)⟩,
 ⟨(some 29), none, false, .fa 0 0 (.t 28)⟩,
 ⟨(some 30), none, false, .ld none (.t 29)⟩,
 ⟨(some 31), none, false, .bin .add (.t 30) (.k (.d (.int .i64 1)))⟩,
 ⟨(some 32), none, false, .fa 0 0 (.t 11)⟩,
 ⟨none, none, true, .st 1 (.t 32) (.t 31)⟩])
 .skip))
 (.seq
 (.seq
 (.reg false [0, 11, 35] [⟨(some 33), none, false, .mov (.t 3)⟩,
 ⟨(some 34), none, false, .len false (.t 33)⟩,
 ⟨(some 35), none, false, .bin .eql (.t 34) (.k (.d (.int .i64 0)))⟩])
 (.cond (.t 35)
 (.reg false [0, 11] [⟨(some 36), none, false, .fa 5 5 (.t 11)⟩,
 ⟨none, none, true, .st 1 (.t 36) (.k (.d (.int .i64 1)))⟩])
 .skip))
 (.seq
 (.any [] [11, 12] (.q 0 ⟨(some 37), none, false, .mov (.t 0)⟩ (.q 2 ⟨(some 39), none, false, .ld (some 6) (.t 11)⟩ (.br (.e 1 ⟨(some 38), none, true, .call 75 [(.t 37)]⟩ (.e 3 ⟨(some 40), none, true, .bs 6 1 (.st (.cons (.int .i64 0) (.cons (.int .i64 0) (.cons (.int .i64 0) (.cons (.sl true 1 .nil) (.cons (.sl true 1 .nil) (.cons (.int .i64 0) .nil))))))) [(0, (.t 39))]⟩ (.e 4 ⟨(some 41), none, true, .app 6 80 (.t 38) (.t 40)⟩ (.q 5 ⟨(some 12), none, false, .mov (.t 41)⟩ .done))))
 (.e 3 ⟨(some 40), none, true, .bs 6 1 (.st (.cons (.int .i64 0) (.cons (.int .i64 0) (.cons (.int .i64 0) (.cons (.sl true 1 .nil) (.cons (.sl true 1 .nil) (.cons (.int .i64 0) .nil))))))) [(0, (.t 39))]⟩ (.e 1 ⟨(some 38), none, true, .call 75 [(.t 37)]⟩ (.e 4 ⟨(some 41), none, true, .app 6 80 (.t 38) (.t 40)⟩ (.q 5 ⟨(some 12), none, false, .mov (.t 41)⟩ .done))))))))
 (.seq
 (.seq
 (.reg false [11, 12, 44] [⟨(some 42), none, false, .mov (.t 12)⟩,
 ⟨(some 43), none, true, .call 15 [(.t 42)]⟩,
 ⟨(some 44), none, false, .un .not (.t 43)⟩])
 (.cond (.t 44)
 (.seq
 (.reg false [8, 9, 10] [⟨(some 8), none, false, .mov (.k .nil)⟩,
 ⟨(some 9), none, false, .mov (.k (.d (.int .i64 0)))⟩,
 ⟨(some 10), none, false, .mov (.k (.d (.bool false)))⟩])
 .ret)
 .skip))
 (.seq
 (.reg true [8, 9, 10] [⟨(some 45), none, false, .mov (.t 12)⟩,
 ⟨(some 46), none, false, .fa 0 0 (.t 11)⟩,
 ⟨(some 47), none, false, .ld none (.t 46)⟩,
 ⟨(some 8), none, false, .mov (.t 45)⟩,
 ⟨(some 9), none, false, .mov (.t 47)⟩,
 ⟨(some 10), none, false, .mov (.k (.d (.bool true)))⟩])
 .ret))))))))
theorem c34 : (Go.Proofs.Try.f34).body.bind (comp prog.P (4, (Go.Proofs.Try.f34).ntmps) lv34) = some m34 := by kernel_rfl
theorem r34 : resOK prog.P (Go.Proofs.Try.f34).results.toList = true := by kernel_rfl

/-- spec.DecideAppeal -/
def lv35 : List (Nat × List Nat) := [(0, [0, 1, 2]), (1, [0, 2, 8]), (2, [0, 2, 8, 28]), (3, [6, 7]), (4, [2, 8, 9]), (5, [2, 8, 9, 10]), (6, [2, 8, 9, 10]), (7, [8, 9, 10, 37]), (8, [8, 9, 10]), (9, [9]), (10, [6, 7])]
def m35 : MC :=
  (.seq
 (.reg false [0, 1, 2] [⟨(some 6), none, false, .mov (.k .nil)⟩,
 ⟨(some 7), none, false, .mov (.k (.d (.bool false)))⟩])
 (.seq
 (.reg false [0, 2, 8] [⟨(some 11), none, false, .mov (.t 0)⟩,
 ⟨(some 12), none, false, .mov (.t 1)⟩,
 ⟨(some 13), none, true, .call 61 [(.t 11), (.t 12)]⟩,
 ⟨(some 8), none, false, .mov (.t 13)⟩])
 (.seq
 (.seq
 (.reg false [0, 2, 8, 28] [⟨(some 14), none, false, .mov (.t 0)⟩,
 ⟨(some 15), none, true, .call 54 [(.t 14)]⟩,
 ⟨(some 16), none, false, .un .not (.t 15)⟩,
 ⟨(some 17), none, false, .mov (.t 16)⟩,
 ⟨(some 18), (some (17, false)), false, .mov (.t 8)⟩,
 ⟨(some 19), (some (17, false)), false, .bin .lss (.t 18) (.k (.d (.int .i64 0)))⟩,
 ⟨(some 20), none, false, .pick (.t 17) (.k (.d (.bool true))) (.t 19)⟩,
 ⟨(some 21), none, false, .mov (.t 20)⟩,
 ⟨(some 22), (some (21, false)), false, .mov (.t 0)⟩,
 ⟨(some 23), (some (21, false)), false, .mov (.t 8)⟩,
 ⟨(some 24), (some (21, false)), false, .ia 6 (.t 22) (.t 23)⟩,
 ⟨(some 25), (some (21, false)), false, .fa 5 5 (.t 24)⟩,
 ⟨(some 26), (some (21, false)), false, .ld none (.t 25)⟩,
 ⟨(some 27), (some (21, false)), false, .bin .neq (.t 26) (.k (.d (.int .i64 1)))⟩,
 ⟨(some 28), none, false, .pick (.t 21) (.k (.d (.bool true))) (.t 27)⟩])
 (.cond (.t 28)
 (.seq
 (.reg false [6, 7] [⟨(some 29), none, true, .bs 6 0 (.st (.cons (.int .i64 0) (.cons (.int .i64 0) (.cons (.int .i64 0) (.cons (.sl true 1 .nil) (.cons (.sl true 1 .nil) (.cons (.int .i64 0) .nil))))))) []⟩,
 ⟨(some 6), none, false, .mov (.t 29)⟩,
 ⟨(some 7), none, false, .mov (.k (.d (.bool false)))⟩])
 .ret)
 .skip))
 (.seq
 (.reg false [2, 8, 9] [⟨(some 30), none, false, .mov (.t 0)⟩,
 ⟨(some 31), none, true, .call 73 [(.t 30)]⟩,
 ⟨(some 9), none, false, .mov (.t 31)⟩])
 (.seq
 (.reg false [2, 8, 9, 10] [⟨(some 32), none, false, .mov (.t 9)⟩,
 ⟨(some 33), none, false, .mov (.t 8)⟩,
 ⟨(some 34), none, false, .ia 6 (.t 32) (.t 33)⟩,
 ⟨(some 35), none, false, .ld (some 6) (.t 34)⟩,
 ⟨(some 10), none, true, .alloc (.st (.cons (.int .i64 0) (.cons (.int .i64 0) (.cons (.int .i64 0) (.cons (.sl true 1 .nil) (.cons (.sl true 1 .nil) (.cons (.int .i64 0) .nil)))))))⟩,
 ⟨none, none, true, .st 6 (.t 10) (.t 35)⟩])
 (.seq
 (.reg false [2, 8, 9, 10] [⟨(some 36), none, false, .fa 5 5 (.t 10)⟩,
 ⟨none, none, true, .st 1 (.t 36) (.k (.d (.int .i64 3)))⟩])
 (.seq
 (.seq
 (.reg false [8, 9, 10, 37] [⟨(some 37), none, false, .mov (.t 2)⟩])
 (.cond (.t 37)
 (.reg false [8, 9, 10] [⟨(some 38), none, false, .fa 5 5 (.t 10)⟩,
 ⟨none, none, true, .st 1 (.t 38) (.k (.d (.int .i64 2)))⟩])
 .skip))
 (.seq
 (.reg false [9] [⟨(some 39), none, false, .mov (.t 9)⟩,
 ⟨(some 40), none, false, .mov (.t 8)⟩,
 ⟨(some 41), none, false, .ld (some 6) (.t 10)⟩,
 ⟨(some 42), none, false, .ia 6 (.t 39) (.t 40)⟩,
 ⟨none, none, true, .st 6 (.t 42) (.t 41)⟩])
 (.seq
 (.reg false [6, 7] [⟨(some 43), none, false, .mov (.t 9)⟩,
 ⟨(some 6), none, false, .mov (.t 43)⟩,
 ⟨(some 7), none, false, .mov (.k (.d (.bool true)))⟩])
 .ret)))))))))
theorem c35 : (Go.Proofs.Try.f35).body.bind (comp prog.P (3, (Go.Proofs.Try.f35).ntmps) lv35) = some m35 := by kernel_rfl
theorem r35 : resOK prog.P (Go.Proofs.Try.f35).results.toList = true := by kernel_rfl

/-- impl.DecideAppeal -/
def lv36 : List (Nat × List Nat) := [(0, [0, 1, 2]), (1, [0, 2, 8]), (2, [0, 2, 8, 27]), (3, [6, 7]), (4, [2, 8, 9]), (5, [2, 8, 9]), (6, [8, 9, 34]), (7, [9]), (8, [6, 7])]
def m36 : MC :=
  (.seq
 (.reg false [0, 1, 2] [⟨(some 6), none, false, .mov (.k .nil)⟩,
 ⟨(some 7), none, false, .mov (.k (.d (.bool false)))⟩])
 (.seq
 (.reg false [0, 2, 8] [⟨(some 10), none, false, .mov (.t 0)⟩,
 ⟨(some 11), none, false, .mov (.t 1)⟩,
 ⟨(some 12), none, true, .call 64 [(.t 10), (.t 11)]⟩,
 ⟨(some 8), none, false, .mov (.t 12)⟩])
 (.seq
 (.seq
 (.reg false [0, 2, 8, 27] [⟨(some 13), none, false, .mov (.t 0)⟩,
 ⟨(some 14), none, true, .call 15 [(.t 13)]⟩,
 ⟨(some 15), none, false, .un .not (.t 14)⟩,
 ⟨(some 16), none, false, .mov (.t 15)⟩,
 ⟨(some 17), (some (16, false)), false, .mov (.t 8)⟩,
 ⟨(some 18), (some (16, false)), false, .bin .lss (.t 17) (.k (.d (.int .i64 0)))⟩,
 ⟨(some 19), none, false, .pick (.t 16) (.k (.d (.bool true))) (.t 18)⟩,
 ⟨(some 20), none, false, .mov (.t 19)⟩,
 ⟨(some 21), (some (20, false)), false, .mov (.t 0)⟩,
 ⟨(some 22), (some (20, false)), false, .mov (.t 8)⟩,
 ⟨(some 23), (some (20, false)), false, .ia 6 (.t 21) (.t 22)⟩,
 ⟨(some 24), (some (20, false)), false, .fa 5 5 (.t 23)⟩,
 ⟨(some 25), (some (20, false)), false, .ld none (.t 24)⟩,
 ⟨(some 26), (some (20, false)), false, .bin .neq (.t 25) (.k (.d (.int .i64 1)))⟩,
 ⟨(some 27), none, false, .pick (.t 20) (.k (.d (.bool true))) (.t 26)⟩])
 (.cond (.t 27)
 (.seq
 (.reg false [6, 7] [⟨(some 6), none, false, .mov (.k .nil)⟩,
 ⟨(some 7), none, false, .mov (.k (.d (.bool false)))⟩])
 .ret)
 .skip))
 (.seq
 (.reg false [2, 8, 9] [⟨(some 28), none, false, .mov (.t 0)⟩,
 ⟨(some 29), none, true, .call 75 [(.t 28)]⟩,
 ⟨(some 9), none, false, .mov (.t 29)⟩])
 (.seq
 (.reg false [2, 8, 9] [⟨(some 30), none, false, .mov (.t 9)⟩,
 ⟨(some 31), none, false, .mov (.t 8)⟩,
 ⟨(some 32), none, false, .ia 6 (.t 30) (.t 31)⟩,
 ⟨(some 33), none, false, .fa 5 5 (.t 32)⟩,
 ⟨none, none, true, .st 1 (.t 33) (.k (.d (.int .i64 3)))⟩])
 (.seq
 (.seq
 (.reg false [8, 9, 34] [⟨(some 34), none, false, .mov (.t 2)⟩])
 (.cond (.t 34)
 (.reg false [9] [⟨(some 35), none, false, .mov (.t 9)⟩,
 ⟨(some 36), none, false, .mov (.t 8)⟩,
 ⟨(some 37), none, false, .ia 6 (.t 35) (.t 36)⟩,
 ⟨(some 38), none, false, .fa 5 5 (.t 37)⟩,
 ⟨none, none, true, .st 1 (.t 38) (.k (.d (.int .i64 2)))⟩])
 .skip))
 (.seq
 (.reg false [6, 7] [⟨(some 39), none, false, .mov (.t 9)⟩,
 ⟨(some 6), none, false, .mov (.t 39)⟩,
 ⟨(some 7), none, false, .mov (.k (.d (.bool true)))⟩])
 .ret)))))))
theorem c36 : (Go.Proofs.Try.f36).body.bind (comp prog.P (3, (Go.Proofs.Try.f36).ntmps) lv36) = some m36 := by kernel_rfl
theorem r36 : resOK prog.P (Go.Proofs.Try.f36).results.toList = true := by kernel_rfl

/-- laws.szAppeal -/
def lv53 : List (Nat × List Nat) := [(0, [1, 2]), (1, [1, 2]), (2, [1, 2, 10]), (3, [4]), (4, [1]), (5, [1, 16]), (6, [4]), (7, [4])]
def m53 : MC :=
  (.seq
 (.reg false [1, 2] [⟨(some 2), none, true, .box (.t 0)⟩,
 ⟨(some 4), none, false, .mov (.k (.d (.int .i64 0)))⟩])
 (.seq
 (.reg false [1, 2] [⟨(some 5), none, false, .fa 3 3 (.t 2)⟩,
 ⟨(some 6), none, false, .ld none (.t 5)⟩,
 ⟨(some 7), none, false, .mov (.t 1)⟩,
 ⟨(some 8), none, true, .call 87 [(.t 6), (.t 7)]⟩,
 ⟨(some 1), none, false, .mov (.t 8)⟩])
 (.seq
 (.seq
 (.reg false [1, 2, 10] [⟨(some 9), none, false, .mov (.t 1)⟩,
 ⟨(some 10), none, false, .bin .lss (.t 9) (.k (.d (.int .i64 0)))⟩])
 (.cond (.t 10)
 (.seq
 (.reg false [4] [⟨(some 4), none, false, .mov (.k (.d (.int .i64 (-1))))⟩])
 .ret)
 .skip))
 (.seq
 (.reg false [1] [⟨(some 11), none, false, .fa 4 4 (.t 2)⟩,
 ⟨(some 12), none, false, .ld none (.t 11)⟩,
 ⟨(some 13), none, false, .mov (.t 1)⟩,
 ⟨(some 14), none, true, .call 87 [(.t 12), (.t 13)]⟩,
 ⟨(some 1), none, false, .mov (.t 14)⟩])
 (.seq
 (.seq
 (.reg false [1, 16] [⟨(some 15), none, false, .mov (.t 1)⟩,
 ⟨(some 16), none, false, .bin .lss (.t 15) (.k (.d (.int .i64 0)))⟩])
 (.cond (.t 16)
 (.seq
 (.reg false [4] [⟨(some 4), none, false, .mov (.k (.d (.int .i64 (-1))))⟩])
 .ret)
 .skip))
 (.seq
 (.reg false [4] [⟨(some 17), none, false, .mov (.t 1)⟩,
 ⟨(some 4), none, false, .mov (.t 17)⟩])
 .ret))))))
theorem c53 : (Go.Proofs.Try.f53).body.bind (comp prog.P (1, (Go.Proofs.Try.f53).ntmps) lv53) = some m53 := by kernel_rfl
theorem r53 : resOK prog.P (Go.Proofs.Try.f53).results.toList = true := by kernel_rfl

/-- spec.l24Good -/
def lv54 : List (Nat × List Nat) := [(0, [0]), (1, [0, 3]), (2, [0, 3, 13]), (3, [0, 3]), (4, [0, 3, 4]), (5, [0, 3, 4, 37]), (6, [2]), (7, [0, 3, 4, 5]), (8, [0, 3, 4, 5, 40]), (9, [0, 3, 4, 5]), (10, [0, 3, 4, 5, 63]), (11, [2]), (12, [2])]
def m54 : MC :=
  (.seq
 (.reg false [0] [⟨(some 2), none, false, .mov (.k (.d (.bool false)))⟩])
 (.seq
 (.seq
 (.reg false [0, 3] [⟨(some 3), none, false, .mov (.k (.d (.int .i64 0)))⟩])
 (.block 0
 (.loop
 (.seq
 (.seq
 (.reg false [0, 3, 13] [⟨(some 6), none, false, .mov (.t 3)⟩,
 ⟨(some 7), none, false, .mov (.t 0)⟩,
 ⟨(some 8), none, false, .len false (.t 7)⟩,
 ⟨(some 9), none, false, .bin .lss (.t 6) (.t 8)⟩,
 ⟨(some 10), none, false, .mov (.t 9)⟩,
 ⟨(some 11), (some (10, true)), false, .mov (.t 3)⟩,
 ⟨(some 12), (some (10, true)), false, .bin .leq (.t 11) (.k (.d (.int .i64 10)))⟩,
 ⟨(some 13), none, false, .pick (.t 10) (.t 12) (.k (.d (.bool false)))⟩])
 (.cond (.t 13)
 .skip
 (.exit 0)))
 (.seq
 (.block 1
 (.seq
 (.reg false [0, 3, 4] [⟨(some 16), none, false, .mov (.t 0)⟩,
 ⟨(some 17), none, false, .mov (.t 3)⟩,
 ⟨(some 18), none, false, .ia 6 (.t 16) (.t 17)⟩,
 ⟨(some 19), none, false, .ld (some 6) (.t 18)⟩,
 ⟨(some 4), none, true, .alloc (.st (.cons (.int .i64 0) (.cons (.int .i64 0) (.cons (.int .i64 0) (.cons (.sl true 1 .nil) (.cons (.sl true 1 .nil) (.cons (.int .i64 0) .nil)))))))⟩,
 ⟨none, none, true, .st 6 (.t 4) (.t 19)⟩])
 (.seq
 (.seq
 (.reg true [0, 3, 4, 37] [⟨(some 20), none, false, .ld (some 6) (.t 4)⟩,
 ⟨(some 21), none, false, .callP 88 [(.t 20)]⟩,
 ⟨(some 22), none, false, .un .not (.t 21)⟩,
 ⟨(some 23), none, false, .mov (.t 22)⟩,
 ⟨(some 24), (some (23, false)), false, .mov (.t 3)⟩,
 ⟨(some 25), (some (23, false)), false, .bin .gtr (.t 24) (.k (.d (.int .i64 0)))⟩,
 ⟨(some 26), (some (23, false)), false, .mov (.t 25)⟩,
 ⟨(some 27), (some (26, true)), false, .mov (.t 0)⟩,
 ⟨(some 28), (some (26, true)), false, .mov (.t 3)⟩,
 ⟨(some 29), (some (26, true)), false, .bin .sub (.t 28) (.k (.d (.int .i64 1)))⟩,
 ⟨(some 30), (some (26, true)), false, .ia 6 (.t 27) (.t 29)⟩,
 ⟨(some 31), (some (26, true)), false, .fa 0 0 (.t 30)⟩,
 ⟨(some 32), (some (26, true)), false, .ld none (.t 31)⟩,
 ⟨(some 33), (some (26, true)), false, .fa 0 0 (.t 4)⟩,
 ⟨(some 34), (some (26, true)), false, .ld none (.t 33)⟩,
 ⟨(some 35), (some (26, true)), false, .bin .geq (.t 32) (.t 34)⟩,
 ⟨(some 36), (some (23, false)), false, .pick (.t 26) (.t 35) (.k (.d (.bool false)))⟩,
 ⟨(some 37), none, false, .pick (.t 23) (.k (.d (.bool true))) (.t 36)⟩])
 (.cond (.t 37)
 (.seq
 (.reg false [2] [⟨(some 2), none, false, .mov (.k (.d (.bool false)))⟩])
 .ret)
 .skip))
 (.seq
 (.reg false [0, 3, 4, 5] [⟨(some 5), none, false, .mov (.k (.d (.int .i64 0)))⟩])
 (.block 2
 (.loop
 (.seq
 (.seq
 (.reg false [0, 3, 4, 5, 40] [⟨(some 38), none, false, .mov (.t 5)⟩,
 ⟨(some 39), none, false, .mov (.t 3)⟩,
 ⟨(some 40), none, false, .bin .lss (.t 38) (.t 39)⟩])
 (.cond (.t 40)
 .skip
 (.exit 2)))
 (.seq
 (.block 3
 (.seq
 (.reg true [0, 3, 4, 5, 63] [⟨(some 43), none, false, .mov (.t 0)⟩,
 ⟨(some 44), none, false, .mov (.t 5)⟩,
 ⟨(some 45), none, false, .ia 6 (.t 43) (.t 44)⟩,
 ⟨(some 46), none, false, .fa 1 1 (.t 45)⟩,
 ⟨(some 47), none, false, .ld none (.t 46)⟩,
 ⟨(some 48), none, false, .fa 1 1 (.t 4)⟩,
 ⟨(some 49), none, false, .ld none (.t 48)⟩,
 ⟨(some 50), none, false, .bin .eql (.t 47) (.t 49)⟩,
 ⟨(some 51), none, false, .mov (.t 50)⟩,
 ⟨(some 52), (some (51, true)), false, .mov (.t 0)⟩,
 ⟨(some 53), (some (51, true)), false, .mov (.t 5)⟩,
 ⟨(some 54), (some (51, true)), false, .ia 6 (.t 52) (.t 53)⟩,
 ⟨(some 55), (some (51, true)), false, .fa 5 5 (.t 54)⟩,
 ⟨(some 56), (some (51, true)), false, .ld none (.t 55)⟩,
 ⟨(some 57), (some (51, true)), false, .bin .leq (.t 56) (.k (.d (.int .i64 1)))⟩,
 ⟨(some 58), none, false, .pick (.t 51) (.t 57) (.k (.d (.bool false)))⟩,
 ⟨(some 59), none, false, .mov (.t 58)⟩,
 ⟨(some 60), (some (59, true)), false, .fa 5 5 (.t 4)⟩,
 ⟨(some 61), (some (59, true)), false, .ld none (.t 60)⟩,
 ⟨(some 62), (some (59, true)), false, .bin .leq (.t 61) (.k (.d (.int .i64 1)))⟩,
 ⟨(some 63), none, false, .pick (.t 59) (.t 62) (.k (.d (.bool false)))⟩])
 (.cond (.t 63)
 (.seq
 (.reg false [2] [⟨(some 2), none, false, .mov (.k (.d (.bool false)))⟩])
 .ret)
 .skip)))
 (.reg false [0, 3, 4, 5] [⟨(some 41), none, false, .mov (.t 5)⟩,
 ⟨(some 42), none, false, .bin .add (.t 41) (.k (.d (.int .i64 1)))⟩,
 ⟨(some 5), none, false, .mov (.t 42)⟩])))))))))
 (.reg false [0, 3] [⟨(some 14), none, false, .mov (.t 3)⟩,
 ⟨(some 15), none, false, .bin .add (.t 14) (.k (.d (.int .i64 1)))⟩,
 ⟨(some 3), none, false, .mov (.t 15)⟩]))))))
 (.seq
 (.reg false [2] [⟨(some 64), none, false, .mov (.t 0)⟩,
 ⟨(some 65), none, false, .len false (.t 64)⟩,
 ⟨(some 66), none, false, .bin .leq (.t 65) (.k (.d (.int .i64 10)))⟩,
 ⟨(some 2), none, false, .mov (.t 66)⟩])
 .ret)))
theorem c54 : (Go.Proofs.Try.f54).body.bind (comp prog.P (1, (Go.Proofs.Try.f54).ntmps) lv54) = some m54 := by kernel_rfl
theorem r54 : resOK prog.P (Go.Proofs.Try.f54).results.toList = true := by kernel_rfl

/-- laws.toAppeal -/
def lv55 : List (Nat × List Nat) := [(0, [1, 2]), (1, [1, 2, 3]), (2, [1, 2, 3]), (3, [1, 2, 3]), (4, [1, 2, 3]), (5, [1, 2, 3]), (6, [1, 2, 3]), (7, [2, 3]), (8, [2])]
def m55 : MC :=
  (.seq
 (.reg false [1, 2] [⟨(some 1), none, true, .box (.t 0)⟩,
 ⟨(some 2), none, true, .alloc (.st (.cons (.int .i64 0) (.cons (.int .i64 0) (.cons (.int .i64 0) (.cons (.sl true 1 .nil) (.cons (.sl true 1 .nil) (.cons (.int .i64 0) .nil)))))))⟩])
 (.seq
 (.reg false [1, 2, 3] [⟨(some 3), none, true, .alloc (.st (.cons (.int .i64 0) (.cons (.int .i64 0) (.cons (.int .i64 0) (.cons (.sl true 1 .nil) (.cons (.sl true 1 .nil) (.cons (.int .i64 0) .nil)))))))⟩])
 (.seq
 (.reg false [1, 2, 3] [⟨(some 4), none, false, .fa 0 0 (.t 1)⟩,
 ⟨(some 5), none, false, .ld none (.t 4)⟩,
 ⟨(some 6), none, false, .fa 0 0 (.t 3)⟩,
 ⟨none, none, true, .st 1 (.t 6) (.t 5)⟩])
 (.seq
 (.reg false [1, 2, 3] [⟨(some 7), none, false, .fa 1 1 (.t 1)⟩,
 ⟨(some 8), none, false, .ld none (.t 7)⟩,
 ⟨(some 9), none, false, .fa 1 1 (.t 3)⟩,
 ⟨none, none, true, .st 1 (.t 9) (.t 8)⟩])
 (.seq
 (.reg false [1, 2, 3] [⟨(some 10), none, false, .fa 2 2 (.t 1)⟩,
 ⟨(some 11), none, false, .ld none (.t 10)⟩,
 ⟨(some 12), none, false, .fa 2 2 (.t 3)⟩,
 ⟨none, none, true, .st 1 (.t 12) (.t 11)⟩])
 (.seq
 (.reg false [1, 2, 3] [⟨(some 13), none, false, .fa 3 3 (.t 1)⟩,
 ⟨(some 14), none, false, .ld none (.t 13)⟩,
 ⟨(some 15), none, true, .call 33 [(.t 14)]⟩,
 ⟨(some 16), none, false, .fa 3 3 (.t 3)⟩,
 ⟨none, none, true, .st 1 (.t 16) (.t 15)⟩])
 (.seq
 (.reg false [1, 2, 3] [⟨(some 17), none, false, .fa 4 4 (.t 1)⟩,
 ⟨(some 18), none, false, .ld none (.t 17)⟩,
 ⟨(some 19), none, true, .call 33 [(.t 18)]⟩,
 ⟨(some 20), none, false, .fa 4 4 (.t 3)⟩,
 ⟨none, none, true, .st 1 (.t 20) (.t 19)⟩])
 (.seq
 (.reg false [2, 3] [⟨(some 21), none, false, .fa 5 5 (.t 1)⟩,
 ⟨(some 22), none, false, .ld none (.t 21)⟩,
 ⟨(some 23), none, false, .fa 5 5 (.t 3)⟩,
 ⟨none, none, true, .st 1 (.t 23) (.t 22)⟩])
 (.seq
 (.reg false [2] [⟨(some 24), none, false, .ld (some 6) (.t 3)⟩,
 ⟨none, none, true, .st 6 (.t 2) (.t 24)⟩])
 .ret)))))))))
theorem c55 : (Go.Proofs.Try.f55).body.bind (comp prog.P (1, (Go.Proofs.Try.f55).ntmps) lv55) = some m55 := by kernel_rfl
theorem r55 : resOK prog.P (Go.Proofs.Try.f55).results.toList = true := by kernel_rfl

/-- impl.IsAppeal -/
def lv56 : List (Nat × List Nat) := [(0, [1]), (1, [1, 24]), (2, [2]), (3, [1, 45]), (4, [2]), (5, [1, 49]), (6, [2]), (7, [2])]
def m56 : MC :=
  (.seq
 (.reg false [1] [⟨(some 1), none, true, .box (.t 0)⟩,
 ⟨(some 2), none, false, .mov (.k (.d (.bool false)))⟩])
 (.seq
 (.seq
 (.reg false [1, 24] [⟨(some 3), none, false, .fa 0 0 (.t 1)⟩,
 ⟨(some 4), none, false, .ld none (.t 3)⟩,
 ⟨(some 5), none, true, .call 89 [(.t 4), (.k (.d (.int .i64 1))), (.k (.d (.int .i64 999)))]⟩,
 ⟨(some 6), none, false, .un .not (.t 5)⟩,
 ⟨(some 7), none, false, .mov (.t 6)⟩,
 ⟨(some 8), (some (7, false)), false, .fa 1 1 (.t 1)⟩,
 ⟨(some 9), (some (7, false)), false, .ld none (.t 8)⟩,
 ⟨(some 10), (some (7, false)), true, .call 89 [(.t 9), (.k (.d (.int .i64 1))), (.k (.d (.int .i64 999)))]⟩,
 ⟨(some 11), (some (7, false)), false, .un .not (.t 10)⟩,
 ⟨(some 12), none, false, .pick (.t 7) (.k (.d (.bool true))) (.t 11)⟩,
 ⟨(some 13), none, false, .mov (.t 12)⟩,
 ⟨(some 14), (some (13, false)), false, .fa 2 2 (.t 1)⟩,
 ⟨(some 15), (some (13, false)), false, .ld none (.t 14)⟩,
 ⟨(some 16), (some (13, false)), true, .call 74 [(.t 15)]⟩,
 ⟨(some 17), (some (13, false)), false, .un .not (.t 16)⟩,
 ⟨(some 18), none, false, .pick (.t 13) (.k (.d (.bool true))) (.t 17)⟩,
 ⟨(some 19), none, false, .mov (.t 18)⟩,
 ⟨(some 20), (some (19, false)), false, .fa 5 5 (.t 1)⟩,
 ⟨(some 21), (some (19, false)), false, .ld none (.t 20)⟩,
 ⟨(some 22), (some (19, false)), true, .call 89 [(.t 21), (.k (.d (.int .i64 0))), (.k (.d (.int .i64 4)))]⟩,
 ⟨(some 23), (some (19, false)), false, .un .not (.t 22)⟩,
 ⟨(some 24), none, false, .pick (.t 19) (.k (.d (.bool true))) (.t 23)⟩])
 (.cond (.t 24)
 (.seq
 (.reg false [2] [⟨(some 2), none, false, .mov (.k (.d (.bool false)))⟩])
 .ret)
 .skip))
 (.seq
 (.seq
 (.reg false [1, 45] [⟨(some 25), none, false, .fa 3 3 (.t 1)⟩,
 ⟨(some 26), none, false, .ld none (.t 25)⟩,
 ⟨(some 27), none, false, .len false (.t 26)⟩,
 ⟨(some 28), none, false, .bin .gtr (.t 27) (.k (.d (.int .i64 6)))⟩,
 ⟨(some 29), none, false, .mov (.t 28)⟩,
 ⟨(some 30), (some (29, false)), false, .fa 3 3 (.t 1)⟩,
 ⟨(some 31), (some (29, false)), false, .ld none (.t 30)⟩,
 ⟨(some 32), (some (29, false)), true, .call 90 [(.t 31)]⟩,
 ⟨(some 33), (some (29, false)), false, .un .not (.t 32)⟩,
 ⟨(some 34), none, false, .pick (.t 29) (.k (.d (.bool true))) (.t 33)⟩,
 ⟨(some 35), none, false, .mov (.t 34)⟩,
 ⟨(some 36), (some (35, false)), false, .fa 4 4 (.t 1)⟩,
 ⟨(some 37), (some (35, false)), false, .ld none (.t 36)⟩,
 ⟨(some 38), (some (35, false)), true, .call 90 [(.t 37)]⟩,
 ⟨(some 39), (some (35, false)), false, .un .not (.t 38)⟩,
 ⟨(some 40), none, false, .pick (.t 35) (.k (.d (.bool true))) (.t 39)⟩,
 ⟨(some 41), none, false, .mov (.t 40)⟩,
 ⟨(some 42), (some (41, false)), false, .fa 3 3 (.t 1)⟩,
 ⟨(some 43), (some (41, false)), false, .ld none (.t 42)⟩,
 ⟨(some 44), (some (41, false)), true, .call 91 [(.t 43), (.k (.d (.clo 92 .nil)))]⟩,
 ⟨(some 45), none, false, .pick (.t 41) (.k (.d (.bool true))) (.t 44)⟩])
 (.cond (.t 45)
 (.seq
 (.reg false [2] [⟨(some 2), none, false, .mov (.k (.d (.bool false)))⟩])
 .ret)
 .skip))
 (.seq
 (.seq
 (.reg false [1, 49] [⟨(some 46), none, false, .fa 4 4 (.t 1)⟩,
 ⟨(some 47), none, false, .ld none (.t 46)⟩,
 ⟨(some 48), none, false, .clos 94 [(.t 1)]⟩,
 ⟨(some 49), none, true, .call 91 [(.t 47), (.t 48)]⟩])
 (.cond (.t 49)
 (.seq
 (.reg false [2] [⟨(some 2), none, false, .mov (.k (.d (.bool false)))⟩])
 .ret)
 .skip))
 (.seq
 (.reg false [2] [⟨(some 50), none, false, .fa 4 4 (.t 1)⟩,
 ⟨(some 51), none, false, .ld none (.t 50)⟩,
 ⟨(some 52), none, false, .len false (.t 51)⟩,
 ⟨(some 53), none, false, .fa 3 3 (.t 1)⟩,
 ⟨(some 54), none, false, .ld none (.t 53)⟩,
 ⟨(some 55), none, false, .len false (.t 54)⟩,
 ⟨(some 56), none, false, .bin .lss (.t 52) (.t 55)⟩,
 ⟨(some 57), none, false, .fa 5 5 (.t 1)⟩,
 ⟨(some 58), none, false, .ld none (.t 57)⟩,
 ⟨(some 59), none, false, .bin .eql (.t 58) (.k (.d (.int .i64 0)))⟩,
 ⟨(some 60), none, false, .mov (.t 59)⟩,
 ⟨(some 61), (some (60, false)), false, .fa 5 5 (.t 1)⟩,
 ⟨(some 62), (some (60, false)), false, .ld none (.t 61)⟩,
 ⟨(some 63), (some (60, false)), false, .bin .eql (.t 62) (.k (.d (.int .i64 4)))⟩,
 ⟨(some 64), none, false, .pick (.t 60) (.k (.d (.bool true))) (.t 63)⟩,
 ⟨(some 65), none, false, .bb .eql (.t 56) (.t 64)⟩,
 ⟨(some 2), none, false, .mov (.t 65)⟩])
 .ret)))))
theorem c56 : (Go.Proofs.Try.f56).body.bind (comp prog.P (1, (Go.Proofs.Try.f56).ntmps) lv56) = some m56 := by kernel_rfl
theorem r56 : resOK prog.P (Go.Proofs.Try.f56).results.toList = true := by kernel_rfl

/-- impl.Appeal).isPending -/
def lv57 : List (Nat × List Nat) := [(0, [1]), (1, [2])]
def m57 : MC :=
  (.seq
 (.reg false [1] [⟨(some 1), none, true, .box (.t 0)⟩,
 ⟨(some 2), none, false, .mov (.k (.d (.bool false)))⟩])
 (.seq
 (.reg false [2] [⟨(some 3), none, false, .fa 5 5 (.t 1)⟩,
 ⟨(some 4), none, false, .ld none (.t 3)⟩,
 ⟨(some 5), none, false, .bin .eql (.t 4) (.k (.d (.int .i64 0)))⟩,
 ⟨(some 6), none, false, .mov (.t 5)⟩,
 ⟨(some 7), (some (6, false)), false, .fa 5 5 (.t 1)⟩,
 ⟨(some 8), (some (6, false)), false, .ld none (.t 7)⟩,
 ⟨(some 9), (some (6, false)), false, .bin .eql (.t 8) (.k (.d (.int .i64 1)))⟩,
 ⟨(some 10), none, false, .pick (.t 6) (.k (.d (.bool true))) (.t 9)⟩,
 ⟨(some 2), none, false, .mov (.t 10)⟩])
 .ret))
theorem c57 : (Go.Proofs.Try.f57).body.bind (comp prog.P (1, (Go.Proofs.Try.f57).ntmps) lv57) = some m57 := by kernel_rfl
theorem r57 : resOK prog.P (Go.Proofs.Try.f57).results.toList = true := by kernel_rfl

/-- slices.ContainsFunc[[]impl.Appeal,impl.Appeal] -/
def lv58 : List (Nat × List Nat) := [(0, [0, 1]), (1, [4])]
def m58 : MC :=
  (.seq
 (.reg false [0, 1] [⟨(some 4), none, false, .mov (.k (.d (.bool false)))⟩])
 (.seq
 (.reg false [4] [⟨(some 5), none, false, .mov (.t 0)⟩,
 ⟨(some 6), none, false, .mov (.t 1)⟩,
 ⟨(some 7), none, true, .call 95 [(.t 5), (.t 6)]⟩,
 ⟨(some 8), none, false, .bin .geq (.t 7) (.k (.d (.int .i64 0)))⟩,
 ⟨(some 4), none, false, .mov (.t 8)⟩])
 .ret))
theorem c58 : (Go.Proofs.Try.f58).body.bind (comp prog.P (2, (Go.Proofs.Try.f58).ntmps) lv58) = some m58 := by kernel_rfl
theorem r58 : resOK prog.P (Go.Proofs.Try.f58).results.toList = true := by kernel_rfl

/-- impl.AreAppeals$1 -/
def lv59 : List (Nat × List Nat) := [(0, [1, 2]), (1, [3])]
def m59 : MC :=
  (.seq
 (.reg false [1, 2] [⟨(some 2), none, true, .box (.t 0)⟩,
 ⟨(some 3), none, false, .mov (.k (.d (.bool false)))⟩])
 (.seq
 (.reg false [3] [⟨(some 4), none, false, .fa 1 1 (.t 2)⟩,
 ⟨(some 5), none, false, .ld none (.t 4)⟩,
 ⟨(some 6), none, false, .fa 1 1 (.t 1)⟩,
 ⟨(some 7), none, false, .ld none (.t 6)⟩,
 ⟨(some 8), none, false, .bin .eql (.t 5) (.t 7)⟩,
 ⟨(some 9), none, false, .mov (.t 8)⟩,
 ⟨(some 10), (some (9, true)), false, .ld (some 6) (.t 2)⟩,
 ⟨(some 11), (some (9, true)), true, .call 57 [(.t 10)]⟩,
 ⟨(some 12), none, false, .pick (.t 9) (.t 11) (.k (.d (.bool false)))⟩,
 ⟨(some 3), none, false, .mov (.t 12)⟩])
 .ret))
theorem c59 : (Go.Proofs.Try.f59).body.bind (comp prog.P (2, (Go.Proofs.Try.f59).ntmps) lv59) = some m59 := by kernel_rfl
theorem r59 : resOK prog.P (Go.Proofs.Try.f59).results.toList = true := by kernel_rfl
theorem en59 : enterOK prog.P 59 = true := by kernel_rfl

/-- laws.eqAppeal -/
def lv60 : List (Nat × List Nat) := [(0, [2, 3]), (1, [2, 3, 9]), (2, [4]), (3, [2, 3, 14]), (4, [4]), (5, [2, 3, 19]), (6, [4]), (7, [2, 3, 25]), (8, [4]), (9, [2, 3, 31]), (10, [4]), (11, [36]), (12, [4]), (13, [4])]
def m60 : MC :=
  (.seq
 (.reg false [2, 3] [⟨(some 2), none, true, .box (.t 0)⟩,
 ⟨(some 3), none, true, .box (.t 1)⟩,
 ⟨(some 4), none, false, .mov (.k (.d (.bool false)))⟩])
 (.seq
 (.seq
 (.reg false [2, 3, 9] [⟨(some 5), none, false, .fa 0 0 (.t 2)⟩,
 ⟨(some 6), none, false, .ld none (.t 5)⟩,
 ⟨(some 7), none, false, .fa 0 0 (.t 3)⟩,
 ⟨(some 8), none, false, .ld none (.t 7)⟩,
 ⟨(some 9), none, false, .bin .neq (.t 6) (.t 8)⟩])
 (.cond (.t 9)
 (.seq
 (.reg false [4] [⟨(some 4), none, false, .mov (.k (.d (.bool false)))⟩])
 .ret)
 .skip))
 (.seq
 (.seq
 (.reg false [2, 3, 14] [⟨(some 10), none, false, .fa 1 1 (.t 2)⟩,
 ⟨(some 11), none, false, .ld none (.t 10)⟩,
 ⟨(some 12), none, false, .fa 1 1 (.t 3)⟩,
 ⟨(some 13), none, false, .ld none (.t 12)⟩,
 ⟨(some 14), none, false, .bin .neq (.t 11) (.t 13)⟩])
 (.cond (.t 14)
 (.seq
 (.reg false [4] [⟨(some 4), none, false, .mov (.k (.d (.bool false)))⟩])
 .ret)
 .skip))
 (.seq
 (.seq
 (.reg false [2, 3, 19] [⟨(some 15), none, false, .fa 2 2 (.t 2)⟩,
 ⟨(some 16), none, false, .ld none (.t 15)⟩,
 ⟨(some 17), none, false, .fa 2 2 (.t 3)⟩,
 ⟨(some 18), none, false, .ld none (.t 17)⟩,
 ⟨(some 19), none, false, .bin .neq (.t 16) (.t 18)⟩])
 (.cond (.t 19)
 (.seq
 (.reg false [4] [⟨(some 4), none, false, .mov (.k (.d (.bool false)))⟩])
 .ret)
 .skip))
 (.seq
 (.seq
 (.reg false [2, 3, 25] [⟨(some 20), none, false, .fa 3 3 (.t 2)⟩,
 ⟨(some 21), none, false, .ld none (.t 20)⟩,
 ⟨(some 22), none, false, .fa 3 3 (.t 3)⟩,
 ⟨(some 23), none, false, .ld none (.t 22)⟩,
 ⟨(some 24), none, true, .call 25 [(.t 21), (.t 23)]⟩,
 ⟨(some 25), none, false, .un .not (.t 24)⟩])
 (.cond (.t 25)
 (.seq
 (.reg false [4] [⟨(some 4), none, false, .mov (.k (.d (.bool false)))⟩])
 .ret)
 .skip))
 (.seq
 (.seq
 (.reg false [2, 3, 31] [⟨(some 26), none, false, .fa 4 4 (.t 2)⟩,
 ⟨(some 27), none, false, .ld none (.t 26)⟩,
 ⟨(some 28), none, false, .fa 4 4 (.t 3)⟩,
 ⟨(some 29), none, false, .ld none (.t 28)⟩,
 ⟨(some 30), none, true, .call 25 [(.t 27), (.t 29)]⟩,
 ⟨(some 31), none, false, .un .not (.t 30)⟩])
 (.cond (.t 31)
 (.seq
 (.reg false [4] [⟨(some 4), none, false, .mov (.k (.d (.bool false)))⟩])
 .ret)
 .skip))
 (.seq
 (.seq
 (.reg false [36] [⟨(some 32), none, false, .fa 5 5 (.t 2)⟩,
 ⟨(some 33), none, false, .ld none (.t 32)⟩,
 ⟨(some 34), none, false, .fa 5 5 (.t 3)⟩,
 ⟨(some 35), none, false, .ld none (.t 34)⟩,
 ⟨(some 36), none, false, .bin .neq (.t 33) (.t 35)⟩])
 (.cond (.t 36)
 (.seq
 (.reg false [4] [⟨(some 4), none, false, .mov (.k (.d (.bool false)))⟩])
 .ret)
 .skip))
 (.seq
 (.reg false [4] [⟨(some 4), none, false, .mov (.k (.d (.bool true)))⟩])
 .ret))))))))
theorem c60 : (Go.Proofs.Try.f60).body.bind (comp prog.P (2, (Go.Proofs.Try.f60).ntmps) lv60) = some m60 := by kernel_rfl
theorem r60 : resOK prog.P (Go.Proofs.Try.f60).results.toList = true := by kernel_rfl

/-- spec.l24Find -/
def lv61 : List (Nat × List Nat) := [(0, [0, 1]), (1, [0, 1, 5]), (2, [0, 1, 5, 9]), (3, [0, 1, 5]), (4, [0, 1, 5, 18]), (5, [4]), (6, [4])]
def m61 : MC :=
  (.seq
 (.reg false [0, 1] [⟨(some 4), none, false, .mov (.k (.d (.int .i64 0)))⟩])
 (.seq
 (.seq
 (.reg false [0, 1, 5] [⟨(some 5), none, false, .mov (.k (.d (.int .i64 0)))⟩])
 (.block 0
 (.loop
 (.seq
 (.seq
 (.reg false [0, 1, 5, 9] [⟨(some 6), none, false, .mov (.t 5)⟩,
 ⟨(some 7), none, false, .mov (.t 0)⟩,
 ⟨(some 8), none, false, .len false (.t 7)⟩,
 ⟨(some 9), none, false, .bin .lss (.t 6) (.t 8)⟩])
 (.cond (.t 9)
 .skip
 (.exit 0)))
 (.seq
 (.block 1
 (.seq
 (.reg false [0, 1, 5, 18] [⟨(some 12), none, false, .mov (.t 0)⟩,
 ⟨(some 13), none, false, .mov (.t 5)⟩,
 ⟨(some 14), none, false, .ia 6 (.t 12) (.t 13)⟩,
 ⟨(some 15), none, false, .fa 0 0 (.t 14)⟩,
 ⟨(some 16), none, false, .ld none (.t 15)⟩,
 ⟨(some 17), none, false, .mov (.t 1)⟩,
 ⟨(some 18), none, false, .bin .eql (.t 16) (.t 17)⟩])
 (.cond (.t 18)
 (.seq
 (.reg false [4] [⟨(some 19), none, false, .mov (.t 5)⟩,
 ⟨(some 4), none, false, .mov (.t 19)⟩])
 .ret)
 .skip)))
 (.reg false [0, 1, 5] [⟨(some 10), none, false, .mov (.t 5)⟩,
 ⟨(some 11), none, false, .bin .add (.t 10) (.k (.d (.int .i64 1)))⟩,
 ⟨(some 5), none, false, .mov (.t 11)⟩]))))))
 (.seq
 (.reg false [4] [⟨(some 4), none, false, .mov (.k (.d (.int .i64 (-1))))⟩])
 .ret)))
theorem c61 : (Go.Proofs.Try.f61).body.bind (comp prog.P (2, (Go.Proofs.Try.f61).ntmps) lv61) = some m61 := by kernel_rfl
theorem r61 : resOK prog.P (Go.Proofs.Try.f61).results.toList = true := by kernel_rfl

/-- spec.l2Day -/
def lv62 : List (Nat × List Nat) := [(0, [0]), (1, [2])]
def m62 : MC :=
  (.seq
 (.reg false [0] [⟨(some 2), none, false, .mov (.k (.d (.bool false)))⟩])
 (.seq
 (.reg false [2] [⟨(some 3), none, false, .mov (.t 0)⟩,
 ⟨(some 4), none, true, .call 96 [(.t 3), (.k (.d (.int .i64 0))), (.k (.d (.int .i64 20000)))]⟩,
 ⟨(some 2), none, false, .mov (.t 4)⟩])
 .ret))
theorem c62 : (Go.Proofs.Try.f62).body.bind (comp prog.P (1, (Go.Proofs.Try.f62).ntmps) lv62) = some m62 := by kernel_rfl
theorem r62 : resOK prog.P (Go.Proofs.Try.f62).results.toList = true := by kernel_rfl

/-- spec.l1Most -/
def lv63 : List (Nat × List Nat) := [(0, [0, 1]), (1, [0, 1, 7]), (2, [4]), (3, [4])]
def m63 : MC :=
  (.seq
 (.reg false [0, 1] [⟨(some 4), none, false, .mov (.k (.d (.int .i64 0)))⟩])
 (.seq
 (.seq
 (.reg false [0, 1, 7] [⟨(some 5), none, false, .mov (.t 0)⟩,
 ⟨(some 6), none, false, .mov (.t 1)⟩,
 ⟨(some 7), none, false, .bin .gtr (.t 5) (.t 6)⟩])
 (.cond (.t 7)
 (.seq
 (.reg false [4] [⟨(some 8), none, false, .mov (.t 0)⟩,
 ⟨(some 4), none, false, .mov (.t 8)⟩])
 .ret)
 .skip))
 (.seq
 (.reg false [4] [⟨(some 9), none, false, .mov (.t 1)⟩,
 ⟨(some 4), none, false, .mov (.t 9)⟩])
 .ret)))
theorem c63 : (Go.Proofs.Try.f63).body.bind (comp prog.P (2, (Go.Proofs.Try.f63).ntmps) lv63) = some m63 := by kernel_rfl
theorem r63 : resOK prog.P (Go.Proofs.Try.f63).results.toList = true := by kernel_rfl

/-- impl.appealAt -/
def lv64 : List (Nat × List Nat) := [(0, [0, 3]), (1, [4])]
def m64 : MC :=
  (.seq
 (.reg false [0, 3] [⟨(some 3), none, true, .box (.t 1)⟩,
 ⟨(some 4), none, false, .mov (.k (.d (.int .i64 0)))⟩])
 (.seq
 (.reg false [4] [⟨(some 5), none, false, .mov (.t 0)⟩,
 ⟨(some 6), none, false, .clos 97 [(.t 3)]⟩,
 ⟨(some 7), none, true, .call 95 [(.t 5), (.t 6)]⟩,
 ⟨(some 4), none, false, .mov (.t 7)⟩])
 .ret))
theorem c64 : (Go.Proofs.Try.f64).body.bind (comp prog.P (2, (Go.Proofs.Try.f64).ntmps) lv64) = some m64 := by kernel_rfl
theorem r64 : resOK prog.P (Go.Proofs.Try.f64).results.toList = true := by kernel_rfl

/-- impl.areDays -/
def lv65 : List (Nat × List Nat) := [(0, [0, 1]), (1, [4])]
def m65 : MC :=
  (.seq
 (.reg false [0, 1] [⟨(some 4), none, false, .mov (.k (.d (.bool false)))⟩])
 (.seq
 (.reg false [4] [⟨(some 5), none, false, .mov (.t 0)⟩,
 ⟨(some 6), none, true, .call 74 [(.t 5)]⟩,
 ⟨(some 7), none, false, .mov (.t 6)⟩,
 ⟨(some 8), (some (7, true)), false, .mov (.t 1)⟩,
 ⟨(some 9), (some (7, true)), true, .call 74 [(.t 8)]⟩,
 ⟨(some 10), none, false, .pick (.t 7) (.t 9) (.k (.d (.bool false)))⟩,
 ⟨(some 11), none, false, .mov (.t 10)⟩,
 ⟨(some 12), (some (11, true)), false, .mov (.t 0)⟩,
 ⟨(some 13), (some (11, true)), false, .mov (.t 1)⟩,
 ⟨(some 14), (some (11, true)), false, .bin .leq (.t 12) (.t 13)⟩,
 ⟨(some 15), none, false, .pick (.t 11) (.t 14) (.k (.d (.bool false)))⟩,
 ⟨(some 4), none, false, .mov (.t 15)⟩])
 .ret))
theorem c65 : (Go.Proofs.Try.f65).body.bind (comp prog.P (2, (Go.Proofs.Try.f65).ntmps) lv65) = some m65 := by kernel_rfl
theorem r65 : resOK prog.P (Go.Proofs.Try.f65).results.toList = true := by kernel_rfl

/-- spec.l1Has -/
def lv66 : List (Nat × List Nat) := [(0, [0, 1]), (1, [0, 1, 5]), (2, [0, 1, 5, 9]), (3, [0, 1, 5]), (4, [0, 1, 5, 17]), (5, [4]), (6, [4])]
def m66 : MC :=
  (.seq
 (.reg false [0, 1] [⟨(some 4), none, false, .mov (.k (.d (.bool false)))⟩])
 (.seq
 (.seq
 (.reg false [0, 1, 5] [⟨(some 5), none, false, .mov (.k (.d (.int .i64 0)))⟩])
 (.block 0
 (.loop
 (.seq
 (.seq
 (.reg false [0, 1, 5, 9] [⟨(some 6), none, false, .mov (.t 5)⟩,
 ⟨(some 7), none, false, .mov (.t 0)⟩,
 ⟨(some 8), none, false, .len false (.t 7)⟩,
 ⟨(some 9), none, false, .bin .lss (.t 6) (.t 8)⟩])
 (.cond (.t 9)
 .skip
 (.exit 0)))
 (.seq
 (.block 1
 (.seq
 (.reg false [0, 1, 5, 17] [⟨(some 12), none, false, .mov (.t 0)⟩,
 ⟨(some 13), none, false, .mov (.t 5)⟩,
 ⟨(some 14), none, false, .ia 1 (.t 12) (.t 13)⟩,
 ⟨(some 15), none, false, .ld none (.t 14)⟩,
 ⟨(some 16), none, false, .mov (.t 1)⟩,
 ⟨(some 17), none, false, .bin .eql (.t 15) (.t 16)⟩])
 (.cond (.t 17)
 (.seq
 (.reg false [4] [⟨(some 4), none, false, .mov (.k (.d (.bool true)))⟩])
 .ret)
 .skip)))
 (.reg false [0, 1, 5] [⟨(some 10), none, false, .mov (.t 5)⟩,
 ⟨(some 11), none, false, .bin .add (.t 10) (.k (.d (.int .i64 1)))⟩,
 ⟨(some 5), none, false, .mov (.t 11)⟩]))))))
 (.seq
 (.reg false [4] [⟨(some 4), none, false, .mov (.k (.d (.bool false)))⟩])
 .ret)))
theorem c66 : (Go.Proofs.Try.f66).body.bind (comp prog.P (2, (Go.Proofs.Try.f66).ntmps) lv66) = some m66 := by kernel_rfl
theorem r66 : resOK prog.P (Go.Proofs.Try.f66).results.toList = true := by kernel_rfl

/-- slices.Contains[[]int,int] -/
def lv67 : List (Nat × List Nat) := [(0, [0, 1]), (1, [4])]
def m67 : MC :=
  (.seq
 (.reg false [0, 1] [⟨(some 4), none, false, .mov (.k (.d (.bool false)))⟩])
 (.seq
 (.reg false [4] [⟨(some 5), none, false, .mov (.t 0)⟩,
 ⟨(some 6), none, false, .mov (.t 1)⟩,
 ⟨(some 7), none, true, .call 80 [(.t 5), (.t 6)]⟩,
 ⟨(some 8), none, false, .bin .geq (.t 7) (.k (.d (.int .i64 0)))⟩,
 ⟨(some 4), none, false, .mov (.t 8)⟩])
 .ret))
theorem c67 : (Go.Proofs.Try.f67).body.bind (comp prog.P (2, (Go.Proofs.Try.f67).ntmps) lv67) = some m67 := by kernel_rfl
theorem r67 : resOK prog.P (Go.Proofs.Try.f67).results.toList = true := by kernel_rfl

/-- spec.l2Reduce -/
def lv68 : List (Nat × List Nat) := [(0, [0, 1]), (1, [0, 1, 6, 7]), (2, [0, 1, 6, 7, 15]), (3, [0, 1, 7, 8]), (4, [0, 1, 6, 8]), (5, [0, 1, 6, 7]), (6, [4, 5])]
def m68 : MC :=
  (.seq
 (.reg false [0, 1] [⟨(some 4), none, false, .mov (.k (.d (.int .i64 0)))⟩,
 ⟨(some 5), none, false, .mov (.k (.d (.int .i64 0)))⟩])
 (.seq
 (.reg false [0, 1, 6, 7] [⟨(some 9), none, false, .mov (.t 0)⟩,
 ⟨(some 10), none, false, .mov (.t 0)⟩,
 ⟨(some 11), none, false, .un .neg (.t 10)⟩,
 ⟨(some 12), none, true, .call 63 [(.t 9), (.t 11)]⟩,
 ⟨(some 13), none, false, .mov (.t 1)⟩,
 ⟨(some 6), none, false, .mov (.t 12)⟩,
 ⟨(some 7), none, false, .mov (.t 13)⟩])
 (.seq
 (.block 0
 (.loop
 (.seq
 (.seq
 (.reg false [0, 1, 6, 7, 15] [⟨(some 14), none, false, .mov (.t 7)⟩,
 ⟨(some 15), none, false, .bin .neq (.t 14) (.k (.d (.int .i64 0)))⟩])
 (.cond (.t 15)
 .skip
 (.exit 0)))
 (.block 1
 (.seq
 (.reg false [0, 1, 7, 8] [⟨(some 16), none, false, .mov (.t 6)⟩,
 ⟨(some 17), none, false, .mov (.t 7)⟩,
 ⟨(some 18), none, false, .bin .rem (.t 16) (.t 17)⟩,
 ⟨(some 8), none, false, .mov (.t 18)⟩])
 (.seq
 (.reg false [0, 1, 6, 8] [⟨(some 19), none, false, .mov (.t 7)⟩,
 ⟨(some 6), none, false, .mov (.t 19)⟩])
 (.reg false [0, 1, 6, 7] [⟨(some 20), none, false, .mov (.t 8)⟩,
 ⟨(some 7), none, false, .mov (.t 20)⟩])))))))
 (.seq
 (.reg true [4, 5] [⟨(some 21), none, false, .mov (.t 0)⟩,
 ⟨(some 22), none, false, .mov (.t 6)⟩,
 ⟨(some 23), none, false, .bin .quo (.t 21) (.t 22)⟩,
 ⟨(some 24), none, false, .mov (.t 1)⟩,
 ⟨(some 25), none, false, .mov (.t 6)⟩,
 ⟨(some 26), none, false, .bin .quo (.t 24) (.t 25)⟩,
 ⟨(some 4), none, false, .mov (.t 23)⟩,
 ⟨(some 5), none, false, .mov (.t 26)⟩])
 .ret))))
theorem c68 : (Go.Proofs.Try.f68).body.bind (comp prog.P (2, (Go.Proofs.Try.f68).ntmps) lv68) = some m68 := by kernel_rfl
theorem r68 : resOK prog.P (Go.Proofs.Try.f68).results.toList = true := by kernel_rfl

/-- impl.reduced -/
def lv69 : List (Nat × List Nat) := [(0, [0, 1]), (1, [0, 1, 6]), (2, [4, 5])]
def m69 : MC :=
  (.seq
 (.reg false [0, 1] [⟨(some 4), none, false, .mov (.k (.d (.int .i64 0)))⟩,
 ⟨(some 5), none, false, .mov (.k (.d (.int .i64 0)))⟩])
 (.seq
 (.reg false [0, 1, 6] [⟨(some 7), none, false, .mov (.t 0)⟩,
 ⟨(some 8), none, false, .mov (.t 1)⟩,
 ⟨(some 9), none, true, .call 98 [(.t 7), (.t 8)]⟩,
 ⟨(some 6), none, false, .mov (.t 9)⟩])
 (.seq
 (.reg true [4, 5] [⟨(some 10), none, false, .mov (.t 0)⟩,
 ⟨(some 11), none, false, .mov (.t 6)⟩,
 ⟨(some 12), none, false, .bin .quo (.t 10) (.t 11)⟩,
 ⟨(some 13), none, false, .mov (.t 1)⟩,
 ⟨(some 14), none, false, .mov (.t 6)⟩,
 ⟨(some 15), none, false, .bin .quo (.t 13) (.t 14)⟩,
 ⟨(some 4), none, false, .mov (.t 12)⟩,
 ⟨(some 5), none, false, .mov (.t 15)⟩])
 .ret)))
theorem c69 : (Go.Proofs.Try.f69).body.bind (comp prog.P (2, (Go.Proofs.Try.f69).ntmps) lv69) = some m69 := by kernel_rfl
theorem r69 : resOK prog.P (Go.Proofs.Try.f69).results.toList = true := by kernel_rfl

/-- slices.Clone[[]int,int] -/
def lv71 : List (Nat × List Nat) := [(0, [0]), (1, [0, 4]), (2, [2]), (3, [2])]
def m71 : MC :=
  (.seq
 (.reg false [0] [⟨(some 2), none, false, .mov (.k .nil)⟩])
 (.seq
 (.seq
 (.reg false [0, 4] [⟨(some 3), none, false, .mov (.t 0)⟩,
 ⟨(some 4), none, true, .snil false (.t 3)⟩])
 (.cond (.t 4)
 (.seq
 (.reg false [2] [⟨(some 2), none, false, .mov (.k .nil)⟩])
 .ret)
 .skip))
 (.seq
 (.reg false [2] [⟨(some 5), none, true, .bs 1 0 (.int .i64 0) []⟩,
 ⟨(some 6), none, false, .mov (.t 0)⟩,
 ⟨(some 7), none, true, .app 1 8 (.t 5) (.t 6)⟩,
 ⟨(some 2), none, false, .mov (.t 7)⟩])
 .ret)))
theorem c71 : (Go.Proofs.Try.f71).body.bind (comp prog.P (1, (Go.Proofs.Try.f71).ntmps) lv71) = some m71 := by kernel_rfl
theorem r71 : resOK prog.P (Go.Proofs.Try.f71).results.toList = true := by kernel_rfl

/-- spec.l24Own -/
def lv73 : List (Nat × List Nat) := [(0, [0]), (1, [0, 3]), (2, [0, 3, 4]), (3, [0, 3, 4, 10]), (4, [0, 3, 4]), (5, [0, 3, 4, 5]), (6, [0, 3, 4, 5]), (7, [0, 3, 4, 5]), (8, [0, 3, 4]), (9, [2])]
def m73 : MC :=
  (.seq
 (.reg false [0] [⟨(some 2), none, false, .mov (.k .nil)⟩])
 (.seq
 (.reg false [0, 3] [⟨(some 6), none, true, .bs 6 0 (.st (.cons (.int .i64 0) (.cons (.int .i64 0) (.cons (.int .i64 0) (.cons (.sl true 1 .nil) (.cons (.sl true 1 .nil) (.cons (.int .i64 0) .nil))))))) []⟩,
 ⟨(some 3), none, false, .mov (.t 6)⟩])
 (.seq
 (.seq
 (.reg false [0, 3, 4] [⟨(some 4), none, false, .mov (.k (.d (.int .i64 0)))⟩])
 (.block 0
 (.loop
 (.seq
 (.seq
 (.reg false [0, 3, 4, 10] [⟨(some 7), none, false, .mov (.t 4)⟩,
 ⟨(some 8), none, false, .mov (.t 0)⟩,
 ⟨(some 9), none, false, .len false (.t 8)⟩,
 ⟨(some 10), none, false, .bin .lss (.t 7) (.t 9)⟩])
 (.cond (.t 10)
 .skip
 (.exit 0)))
 (.seq
 (.block 1
 (.seq
 (.reg false [0, 3, 4, 5] [⟨(some 13), none, false, .mov (.t 0)⟩,
 ⟨(some 14), none, false, .mov (.t 4)⟩,
 ⟨(some 15), none, false, .ia 6 (.t 13) (.t 14)⟩,
 ⟨(some 16), none, false, .ld (some 6) (.t 15)⟩,
 ⟨(some 5), none, true, .alloc (.st (.cons (.int .i64 0) (.cons (.int .i64 0) (.cons (.int .i64 0) (.cons (.sl true 1 .nil) (.cons (.sl true 1 .nil) (.cons (.int .i64 0) .nil)))))))⟩,
 ⟨none, none, true, .st 6 (.t 5) (.t 16)⟩])
 (.seq
 (.reg false [0, 3, 4, 5] [⟨(some 17), none, false, .fa 3 3 (.t 5)⟩,
 ⟨(some 18), none, false, .ld none (.t 17)⟩,
 ⟨(some 19), none, true, .call 76 [(.t 18)]⟩,
 ⟨(some 20), none, false, .fa 3 3 (.t 5)⟩,
 ⟨none, none, true, .st 1 (.t 20) (.t 19)⟩])
 (.seq
 (.reg false [0, 3, 4, 5] [⟨(some 21), none, false, .fa 4 4 (.t 5)⟩,
 ⟨(some 22), none, false, .ld none (.t 21)⟩,
 ⟨(some 23), none, true, .call 76 [(.t 22)]⟩,
 ⟨(some 24), none, false, .fa 4 4 (.t 5)⟩,
 ⟨none, none, true, .st 1 (.t 24) (.t 23)⟩])
 (.reg false [0, 3, 4] [⟨(some 25), none, false, .mov (.t 3)⟩,
 ⟨(some 26), none, false, .ld (some 6) (.t 5)⟩,
 ⟨(some 27), none, true, .bs 6 1 (.st (.cons (.int .i64 0) (.cons (.int .i64 0) (.cons (.int .i64 0) (.cons (.sl true 1 .nil) (.cons (.sl true 1 .nil) (.cons (.int .i64 0) .nil))))))) [(0, (.t 26))]⟩,
 ⟨(some 28), none, true, .app 6 80 (.t 25) (.t 27)⟩,
 ⟨(some 3), none, false, .mov (.t 28)⟩])))))
 (.reg false [0, 3, 4] [⟨(some 11), none, false, .mov (.t 4)⟩,
 ⟨(some 12), none, false, .bin .add (.t 11) (.k (.d (.int .i64 1)))⟩,
 ⟨(some 4), none, false, .mov (.t 12)⟩]))))))
 (.seq
 (.reg false [2] [⟨(some 29), none, false, .mov (.t 3)⟩,
 ⟨(some 2), none, false, .mov (.t 29)⟩])
 .ret))))
theorem c73 : (Go.Proofs.Try.f73).body.bind (comp prog.P (1, (Go.Proofs.Try.f73).ntmps) lv73) = some m73 := by kernel_rfl
theorem r73 : resOK prog.P (Go.Proofs.Try.f73).results.toList = true := by kernel_rfl

/-- impl.isDay -/
def lv74 : List (Nat × List Nat) := [(0, [0]), (1, [2])]
def m74 : MC :=
  (.seq
 (.reg false [0] [⟨(some 2), none, false, .mov (.k (.d (.bool false)))⟩])
 (.seq
 (.reg false [2] [⟨(some 3), none, false, .mov (.t 0)⟩,
 ⟨(some 4), none, true, .call 89 [(.t 3), (.k (.d (.int .i64 0))), (.k (.d (.int .i64 20000)))]⟩,
 ⟨(some 2), none, false, .mov (.t 4)⟩])
 .ret))
theorem c74 : (Go.Proofs.Try.f74).body.bind (comp prog.P (1, (Go.Proofs.Try.f74).ntmps) lv74) = some m74 := by kernel_rfl
theorem r74 : resOK prog.P (Go.Proofs.Try.f74).results.toList = true := by kernel_rfl

/-- impl.copyAppeals -/
def lv75 : List (Nat × List Nat) := [(0, [0]), (1, [3]), (2, [3, 8, 9]), (3, [3, 8, 9, 10]), (4, [3, 4, 8, 9]), (5, [3, 8, 9]), (6, [3, 8, 9]), (7, [2]), (1000005, [4, 18, 19, 20, 21, 1, 0, 1, 1, 1, 2, 1, 3, 1, 4, 1, 5, 1, 6, 1, 7, 1, 8, 1, 10, 1, 11, 1, 12, 1, 13, 1, 14, 2, 9, 2, 15, 1, 16, 1, 17, 2, 18, 2, 19, 2, 20, 2, 21, 0])]
def m75 : MC :=
  (.seq
 (.reg false [0] [⟨(some 2), none, false, .mov (.k .nil)⟩])
 (.seq
 (.reg false [3] [⟨(some 5), none, false, .mov (.t 0)⟩,
 ⟨(some 6), none, true, .call 100 [(.t 5)]⟩,
 ⟨(some 3), none, false, .mov (.t 6)⟩])
 (.seq
 (.seq
 (.reg false [3, 8, 9] [⟨(some 7), none, false, .mov (.t 3)⟩,
 ⟨(some 8), none, false, .len false (.t 7)⟩,
 ⟨(some 9), none, false, .mov (.k (.d (.int .i64 0)))⟩])
 (.block 0
 (.loop
 (.seq
 (.reg false [3, 8, 9, 10] [⟨(some 10), none, false, .bin .lss (.t 9) (.t 8)⟩])
 (.seq
 (.cond (.t 10)
 .skip
 (.exit 0))
 (.seq
 (.block 1
 (.seq
 (.reg false [3, 4, 8, 9] [⟨(some 11), none, false, .mov (.t 9)⟩,
 ⟨(some 4), none, false, .mov (.t 11)⟩])
 (.any [18, 19, 20, 21] [3, 8, 9] (.q 0 ⟨(some 12), none, false, .mov (.t 3)⟩ (.q 1 ⟨(some 13), none, false, .mov (.t 4)⟩ (.q 2 ⟨(some 14), none, false, .mov (.t 3)⟩ (.q 3 ⟨(some 15), none, false, .mov (.t 4)⟩ (.q 4 ⟨(some 16), none, false, .mov (.t 3)⟩ (.q 5 ⟨(some 17), none, false, .mov (.t 4)⟩ (.q 6 ⟨(some 18), none, false, .ia 6 (.t 16) (.t 17)⟩ (.q 7 ⟨(some 19), none, false, .fa 3 3 (.t 18)⟩ (.q 8 ⟨(some 20), none, false, .ld none (.t 19)⟩ (.q 10 ⟨(some 22), none, false, .mov (.t 3)⟩ (.q 11 ⟨(some 23), none, false, .mov (.t 4)⟩ (.q 12 ⟨(some 24), none, false, .ia 6 (.t 22) (.t 23)⟩ (.q 13 ⟨(some 25), none, false, .fa 4 4 (.t 24)⟩ (.q 14 ⟨(some 26), none, false, .ld none (.t 25)⟩ (.e 9 ⟨(some 21), none, true, .call 71 [(.t 20)]⟩ (.e 15 ⟨(some 27), none, true, .call 71 [(.t 26)]⟩ (.q 16 ⟨(some 28), none, false, .ia 6 (.t 12) (.t 13)⟩ (.q 17 ⟨(some 29), none, false, .fa 3 3 (.t 28)⟩ (.e 18 ⟨none, none, true, .st 1 (.t 29) (.t 21)⟩ (.e 19 ⟨(some 30), none, false, .ia 6 (.t 14) (.t 15)⟩ (.e 20 ⟨(some 31), none, false, .fa 4 4 (.t 30)⟩ (.e 21 ⟨none, none, true, .st 1 (.t 31) (.t 27)⟩ .done)))))))))))))))))))))))))
 (.reg false [3, 8, 9] [⟨(some 32), none, false, .bin .add (.t 9) (.k (.d (.int .i64 1)))⟩,
 ⟨(some 9), none, false, .mov (.t 32)⟩])))))))
 (.seq
 (.reg false [2] [⟨(some 33), none, false, .mov (.t 3)⟩,
 ⟨(some 2), none, false, .mov (.t 33)⟩])
 .ret))))
theorem c75 : (Go.Proofs.Try.f75).body.bind (comp prog.P (1, (Go.Proofs.Try.f75).ntmps) lv75) = some m75 := by kernel_rfl
theorem r75 : resOK prog.P (Go.Proofs.Try.f75).results.toList = true := by kernel_rfl

/-- spec.l1Own -/
def lv76 : List (Nat × List Nat) := [(0, [0]), (1, [2])]
def m76 : MC :=
  (.seq
 (.reg false [0] [⟨(some 2), none, false, .mov (.k .nil)⟩])
 (.seq
 (.reg false [2] [⟨(some 3), none, true, .bs 1 0 (.int .i64 0) []⟩,
 ⟨(some 4), none, false, .mov (.t 0)⟩,
 ⟨(some 5), none, true, .app 1 8 (.t 3) (.t 4)⟩,
 ⟨(some 2), none, false, .mov (.t 5)⟩])
 .ret))
theorem c76 : (Go.Proofs.Try.f76).body.bind (comp prog.P (1, (Go.Proofs.Try.f76).ntmps) lv76) = some m76 := by kernel_rfl
theorem r76 : resOK prog.P (Go.Proofs.Try.f76).results.toList = true := by kernel_rfl

/-- slices.Index[[]int,int] -/
def lv80 : List (Nat × List Nat) := [(0, [0, 1]), (1, [0, 1, 7, 8]), (2, [0, 1, 7, 8, 9]), (3, [0, 1, 5, 7, 8]), (4, [0, 1, 5, 7, 8, 16]), (5, [4]), (6, [0, 1, 7, 8]), (7, [4])]
def m80 : MC :=
  (.seq
 (.reg false [0, 1] [⟨(some 4), none, false, .mov (.k (.d (.int .i64 0)))⟩])
 (.seq
 (.seq
 (.reg false [0, 1, 7, 8] [⟨(some 6), none, false, .mov (.t 0)⟩,
 ⟨(some 7), none, false, .len false (.t 6)⟩,
 ⟨(some 8), none, false, .mov (.k (.d (.int .i64 0)))⟩])
 (.block 0
 (.loop
 (.seq
 (.reg false [0, 1, 7, 8, 9] [⟨(some 9), none, false, .bin .lss (.t 8) (.t 7)⟩])
 (.seq
 (.cond (.t 9)
 .skip
 (.exit 0))
 (.seq
 (.block 1
 (.seq
 (.reg false [0, 1, 5, 7, 8] [⟨(some 10), none, false, .mov (.t 8)⟩,
 ⟨(some 5), none, false, .mov (.t 10)⟩])
 (.seq
 (.reg false [0, 1, 5, 7, 8, 16] [⟨(some 11), none, false, .mov (.t 1)⟩,
 ⟨(some 12), none, false, .mov (.t 0)⟩,
 ⟨(some 13), none, false, .mov (.t 5)⟩,
 ⟨(some 14), none, false, .ia 1 (.t 12) (.t 13)⟩,
 ⟨(some 15), none, false, .ld none (.t 14)⟩,
 ⟨(some 16), none, false, .bin .eql (.t 11) (.t 15)⟩])
 (.cond (.t 16)
 (.seq
 (.reg false [4] [⟨(some 17), none, false, .mov (.t 5)⟩,
 ⟨(some 4), none, false, .mov (.t 17)⟩])
 .ret)
 .skip))))
 (.reg false [0, 1, 7, 8] [⟨(some 18), none, false, .bin .add (.t 8) (.k (.d (.int .i64 1)))⟩,
 ⟨(some 8), none, false, .mov (.t 18)⟩])))))))
 (.seq
 (.reg false [4] [⟨(some 4), none, false, .mov (.k (.d (.int .i64 (-1))))⟩])
 .ret)))
theorem c80 : (Go.Proofs.Try.f80).body.bind (comp prog.P (2, (Go.Proofs.Try.f80).ntmps) lv80) = some m80 := by kernel_rfl
theorem r80 : resOK prog.P (Go.Proofs.Try.f80).results.toList = true := by kernel_rfl

/-- laws.szIntS -/
def lv87 : List (Nat × List Nat) := [(0, [0, 1]), (1, [1]), (2, [1, 10]), (3, [4]), (4, [4])]
def m87 : MC :=
  (.seq
 (.reg false [0, 1] [⟨(some 4), none, false, .mov (.k (.d (.int .i64 0)))⟩])
 (.seq
 (.reg false [1] [⟨(some 5), none, false, .mov (.t 1)⟩,
 ⟨(some 6), none, false, .mov (.t 0)⟩,
 ⟨(some 7), none, false, .len false (.t 6)⟩,
 ⟨(some 8), none, false, .bin .sub (.t 5) (.t 7)⟩,
 ⟨(some 1), none, false, .mov (.t 8)⟩])
 (.seq
 (.seq
 (.reg false [1, 10] [⟨(some 9), none, false, .mov (.t 1)⟩,
 ⟨(some 10), none, false, .bin .lss (.t 9) (.k (.d (.int .i64 0)))⟩])
 (.cond (.t 10)
 (.seq
 (.reg false [4] [⟨(some 4), none, false, .mov (.k (.d (.int .i64 (-1))))⟩])
 .ret)
 .skip))
 (.seq
 (.reg false [4] [⟨(some 11), none, false, .mov (.t 1)⟩,
 ⟨(some 4), none, false, .mov (.t 11)⟩])
 .ret))))
theorem c87 : (Go.Proofs.Try.f87).body.bind (comp prog.P (1, (Go.Proofs.Try.f87).ntmps) lv87) = some m87 := by kernel_rfl
theorem r87 : resOK prog.P (Go.Proofs.Try.f87).results.toList = true := by kernel_rfl

/-- spec.l24One -/
def lv88 : List (Nat × List Nat) := [(0, [1]), (1, [1, 43]), (2, [2]), (3, [1, 3]), (4, [1, 3, 48]), (5, [1, 3]), (6, [1, 3, 59]), (7, [2]), (8, [2])]
def m88 : MC :=
  (.seq
 (.reg false [1] [⟨(some 1), none, true, .box (.t 0)⟩,
 ⟨(some 2), none, false, .mov (.k (.d (.bool false)))⟩])
 (.seq
 (.seq
 (.reg false [1, 43] [⟨(some 4), none, false, .fa 0 0 (.t 1)⟩,
 ⟨(some 5), none, false, .ld none (.t 4)⟩,
 ⟨(some 6), none, true, .call 96 [(.t 5), (.k (.d (.int .i64 1))), (.k (.d (.int .i64 999)))]⟩,
 ⟨(some 7), none, false, .un .not (.t 6)⟩,
 ⟨(some 8), none, false, .mov (.t 7)⟩,
 ⟨(some 9), (some (8, false)), false, .fa 1 1 (.t 1)⟩,
 ⟨(some 10), (some (8, false)), false, .ld none (.t 9)⟩,
 ⟨(some 11), (some (8, false)), true, .call 96 [(.t 10), (.k (.d (.int .i64 1))), (.k (.d (.int .i64 999)))]⟩,
 ⟨(some 12), (some (8, false)), false, .un .not (.t 11)⟩,
 ⟨(some 13), none, false, .pick (.t 8) (.k (.d (.bool true))) (.t 12)⟩,
 ⟨(some 14), none, false, .mov (.t 13)⟩,
 ⟨(some 15), (some (14, false)), false, .fa 2 2 (.t 1)⟩,
 ⟨(some 16), (some (14, false)), false, .ld none (.t 15)⟩,
 ⟨(some 17), (some (14, false)), true, .call 62 [(.t 16)]⟩,
 ⟨(some 18), (some (14, false)), false, .un .not (.t 17)⟩,
 ⟨(some 19), none, false, .pick (.t 14) (.k (.d (.bool true))) (.t 18)⟩,
 ⟨(some 20), none, false, .mov (.t 19)⟩,
 ⟨(some 21), (some (20, false)), false, .fa 3 3 (.t 1)⟩,
 ⟨(some 22), (some (20, false)), false, .ld none (.t 21)⟩,
 ⟨(some 23), (some (20, false)), false, .len false (.t 22)⟩,
 ⟨(some 24), (some (20, false)), false, .bin .gtr (.t 23) (.k (.d (.int .i64 6)))⟩,
 ⟨(some 25), none, false, .pick (.t 20) (.k (.d (.bool true))) (.t 24)⟩,
 ⟨(some 26), none, false, .mov (.t 25)⟩,
 ⟨(some 27), (some (26, false)), false, .fa 3 3 (.t 1)⟩,
 ⟨(some 28), (some (26, false)), false, .ld none (.t 27)⟩,
 ⟨(some 29), (some (26, false)), true, .call 106 [(.t 28), (.k (.d (.int .i64 1))), (.k (.d (.int .i64 50)))]⟩,
 ⟨(some 30), (some (26, false)), false, .un .not (.t 29)⟩,
 ⟨(some 31), none, false, .pick (.t 26) (.k (.d (.bool true))) (.t 30)⟩,
 ⟨(some 32), none, false, .mov (.t 31)⟩,
 ⟨(some 33), (some (32, false)), false, .fa 4 4 (.t 1)⟩,
 ⟨(some 34), (some (32, false)), false, .ld none (.t 33)⟩,
 ⟨(some 35), (some (32, false)), true, .call 106 [(.t 34), (.k (.d (.int .i64 1))), (.k (.d (.int .i64 50)))]⟩,
 ⟨(some 36), (some (32, false)), false, .un .not (.t 35)⟩,
 ⟨(some 37), none, false, .pick (.t 32) (.k (.d (.bool true))) (.t 36)⟩,
 ⟨(some 38), none, false, .mov (.t 37)⟩,
 ⟨(some 39), (some (38, false)), false, .fa 5 5 (.t 1)⟩,
 ⟨(some 40), (some (38, false)), false, .ld none (.t 39)⟩,
 ⟨(some 41), (some (38, false)), true, .call 96 [(.t 40), (.k (.d (.int .i64 0))), (.k (.d (.int .i64 4)))]⟩,
 ⟨(some 42), (some (38, false)), false, .un .not (.t 41)⟩,
 ⟨(some 43), none, false, .pick (.t 38) (.k (.d (.bool true))) (.t 42)⟩])
 (.cond (.t 43)
 (.seq
 (.reg false [2] [⟨(some 2), none, false, .mov (.k (.d (.bool false)))⟩])
 .ret)
 .skip))
 (.seq
 (.seq
 (.reg false [1, 3] [⟨(some 3), none, false, .mov (.k (.d (.int .i64 0)))⟩])
 (.block 0
 (.loop
 (.seq
 (.seq
 (.reg false [1, 3, 48] [⟨(some 44), none, false, .mov (.t 3)⟩,
 ⟨(some 45), none, false, .fa 4 4 (.t 1)⟩,
 ⟨(some 46), none, false, .ld none (.t 45)⟩,
 ⟨(some 47), none, false, .len false (.t 46)⟩,
 ⟨(some 48), none, false, .bin .lss (.t 44) (.t 47)⟩])
 (.cond (.t 48)
 .skip
 (.exit 0)))
 (.seq
 (.block 1
 (.seq
 (.reg true [1, 3, 59] [⟨(some 51), none, false, .fa 3 3 (.t 1)⟩,
 ⟨(some 52), none, false, .ld none (.t 51)⟩,
 ⟨(some 53), none, false, .fa 4 4 (.t 1)⟩,
 ⟨(some 54), none, false, .ld none (.t 53)⟩,
 ⟨(some 55), none, false, .mov (.t 3)⟩,
 ⟨(some 56), none, false, .ia 1 (.t 54) (.t 55)⟩,
 ⟨(some 57), none, false, .ld none (.t 56)⟩,
 ⟨(some 58), none, false, .callP 66 [(.t 52), (.t 57)]⟩,
 ⟨(some 59), none, false, .un .not (.t 58)⟩])
 (.cond (.t 59)
 (.seq
 (.reg false [2] [⟨(some 2), none, false, .mov (.k (.d (.bool false)))⟩])
 .ret)
 .skip)))
 (.reg false [1, 3] [⟨(some 49), none, false, .mov (.t 3)⟩,
 ⟨(some 50), none, false, .bin .add (.t 49) (.k (.d (.int .i64 1)))⟩,
 ⟨(some 3), none, false, .mov (.t 50)⟩]))))))
 (.seq
 (.reg false [2] [⟨(some 60), none, false, .fa 5 5 (.t 1)⟩,
 ⟨(some 61), none, false, .ld none (.t 60)⟩,
 ⟨(some 62), none, false, .bin .eql (.t 61) (.k (.d (.int .i64 0)))⟩,
 ⟨(some 63), none, false, .mov (.t 62)⟩,
 ⟨(some 64), (some (63, false)), false, .fa 5 5 (.t 1)⟩,
 ⟨(some 65), (some (63, false)), false, .ld none (.t 64)⟩,
 ⟨(some 66), (some (63, false)), false, .bin .eql (.t 65) (.k (.d (.int .i64 4)))⟩,
 ⟨(some 67), none, false, .pick (.t 63) (.k (.d (.bool true))) (.t 66)⟩,
 ⟨(some 68), none, false, .fa 4 4 (.t 1)⟩,
 ⟨(some 69), none, false, .ld none (.t 68)⟩,
 ⟨(some 70), none, false, .len false (.t 69)⟩,
 ⟨(some 71), none, false, .fa 3 3 (.t 1)⟩,
 ⟨(some 72), none, false, .ld none (.t 71)⟩,
 ⟨(some 73), none, false, .len false (.t 72)⟩,
 ⟨(some 74), none, false, .bin .lss (.t 70) (.t 73)⟩,
 ⟨(some 75), none, false, .bb .eql (.t 67) (.t 74)⟩,
 ⟨(some 2), none, false, .mov (.t 75)⟩])
 .ret))))
theorem c88 : (Go.Proofs.Try.f88).body.bind (comp prog.P (1, (Go.Proofs.Try.f88).ntmps) lv88) = some m88 := by kernel_rfl
theorem r88 : resOK prog.P (Go.Proofs.Try.f88).results.toList = true := by kernel_rfl

/-- impl.within -/
def lv89 : List (Nat × List Nat) := [(0, [0, 1, 2]), (1, [6])]
def m89 : MC :=
  (.seq
 (.reg false [0, 1, 2] [⟨(some 6), none, false, .mov (.k (.d (.bool false)))⟩])
 (.seq
 (.reg false [6] [⟨(some 7), none, false, .mov (.t 1)⟩,
 ⟨(some 8), none, false, .mov (.t 0)⟩,
 ⟨(some 9), none, false, .bin .leq (.t 7) (.t 8)⟩,
 ⟨(some 10), none, false, .mov (.t 9)⟩,
 ⟨(some 11), (some (10, true)), false, .mov (.t 0)⟩,
 ⟨(some 12), (some (10, true)), false, .mov (.t 2)⟩,
 ⟨(some 13), (some (10, true)), false, .bin .leq (.t 11) (.t 12)⟩,
 ⟨(some 14), none, false, .pick (.t 10) (.t 13) (.k (.d (.bool false)))⟩,
 ⟨(some 6), none, false, .mov (.t 14)⟩])
 .ret))
theorem c89 : (Go.Proofs.Try.f89).body.bind (comp prog.P (3, (Go.Proofs.Try.f89).ntmps) lv89) = some m89 := by kernel_rfl
theorem r89 : resOK prog.P (Go.Proofs.Try.f89).results.toList = true := by kernel_rfl

/-- impl.areRising -/
def lv90 : List (Nat × List Nat) := [(0, [0]), (1, [0, 3]), (2, [0, 3, 7]), (3, [0, 3]), (4, [0, 3, 19]), (5, [2]), (6, [2])]
def m90 : MC :=
  (.seq
 (.reg false [0] [⟨(some 2), none, false, .mov (.k (.d (.bool false)))⟩])
 (.seq
 (.seq
 (.reg false [0, 3] [⟨(some 3), none, false, .mov (.k (.d (.int .i64 1)))⟩])
 (.block 0
 (.loop
 (.seq
 (.seq
 (.reg false [0, 3, 7] [⟨(some 4), none, false, .mov (.t 3)⟩,
 ⟨(some 5), none, false, .mov (.t 0)⟩,
 ⟨(some 6), none, false, .len false (.t 5)⟩,
 ⟨(some 7), none, false, .bin .lss (.t 4) (.t 6)⟩])
 (.cond (.t 7)
 .skip
 (.exit 0)))
 (.seq
 (.block 1
 (.seq
 (.reg true [0, 3, 19] [⟨(some 10), none, false, .mov (.t 0)⟩,
 ⟨(some 11), none, false, .mov (.t 3)⟩,
 ⟨(some 12), none, false, .bin .sub (.t 11) (.k (.d (.int .i64 1)))⟩,
 ⟨(some 13), none, false, .ia 1 (.t 10) (.t 12)⟩,
 ⟨(some 14), none, false, .ld none (.t 13)⟩,
 ⟨(some 15), none, false, .mov (.t 0)⟩,
 ⟨(some 16), none, false, .mov (.t 3)⟩,
 ⟨(some 17), none, false, .ia 1 (.t 15) (.t 16)⟩,
 ⟨(some 18), none, false, .ld none (.t 17)⟩,
 ⟨(some 19), none, false, .bin .geq (.t 14) (.t 18)⟩])
 (.cond (.t 19)
 (.seq
 (.reg false [2] [⟨(some 2), none, false, .mov (.k (.d (.bool false)))⟩])
 .ret)
 .skip)))
 (.reg false [0, 3] [⟨(some 8), none, false, .mov (.t 3)⟩,
 ⟨(some 9), none, false, .bin .add (.t 8) (.k (.d (.int .i64 1)))⟩,
 ⟨(some 3), none, false, .mov (.t 9)⟩]))))))
 (.seq
 (.reg false [2] [⟨(some 2), none, false, .mov (.k (.d (.bool true)))⟩])
 .ret)))
theorem c90 : (Go.Proofs.Try.f90).body.bind (comp prog.P (1, (Go.Proofs.Try.f90).ntmps) lv90) = some m90 := by kernel_rfl
theorem r90 : resOK prog.P (Go.Proofs.Try.f90).results.toList = true := by kernel_rfl

end Go.Pe.Try
