/-
The compact code of the functions that the law reaches, printed by gen.py, each with the proof that the machine's code is compiled to it.
-/
import Derived.Test.YtbkjloohaahmdaaMc1
import Derived.Test.YtbkjloohaahmdaaProg
import Derived.KernelRfl
set_option maxRecDepth 100000
namespace Go.Pe.Try
open Go.Pe

/-- cmp.Compare[int] -/
def lv91 : List (Nat × List Nat) := [(0, [0, 1]), (1, [0, 1, 5]), (2, [0, 1, 5, 6]), (3, [0, 1, 6, 11]), (4, [12]), (5, [4]), (6, [4]), (7, [0, 1, 13]), (8, [4]), (9, [0, 1, 16]), (10, [4]), (11, [19]), (12, [4]), (13, [4])]
def m91 : MC :=
  (.seq
 (.reg false [0, 1] [⟨(some 4), none, false, .mov (.k (.d (.int .i64 0)))⟩])
 (.seq
 (.reg false [0, 1, 5] [⟨(some 7), none, false, .mov (.t 0)⟩,
 ⟨(some 8), none, true, .call 130 [(.t 7)]⟩,
 ⟨(some 5), none, false, .mov (.t 8)⟩])
 (.seq
 (.reg false [0, 1, 5, 6] [⟨(some 9), none, false, .mov (.t 1)⟩,
 ⟨(some 10), none, true, .call 130 [(.t 9)]⟩,
 ⟨(some 6), none, false, .mov (.t 10)⟩])
 (.seq
 (.seq
 (.reg false [0, 1, 6, 11] [⟨(some 11), none, false, .mov (.t 5)⟩])
 (.cond (.t 11)
 (.seq
 (.seq
 (.reg false [12] [⟨(some 12), none, false, .mov (.t 6)⟩])
 (.cond (.t 12)
 (.seq
 (.reg false [4] [⟨(some 4), none, false, .mov (.k (.d (.int .i64 0)))⟩])
 .ret)
 .skip))
 (.seq
 (.reg false [4] [⟨(some 4), none, false, .mov (.k (.d (.int .i64 (-1))))⟩])
 .ret))
 .skip))
 (.seq
 (.seq
 (.reg false [0, 1, 13] [⟨(some 13), none, false, .mov (.t 6)⟩])
 (.cond (.t 13)
 (.seq
 (.reg false [4] [⟨(some 4), none, false, .mov (.k (.d (.int .i64 1)))⟩])
 .ret)
 .skip))
 (.seq
 (.seq
 (.reg false [0, 1, 16] [⟨(some 14), none, false, .mov (.t 0)⟩,
 ⟨(some 15), none, false, .mov (.t 1)⟩,
 ⟨(some 16), none, false, .bin .lss (.t 14) (.t 15)⟩])
 (.cond (.t 16)
 (.seq
 (.reg false [4] [⟨(some 4), none, false, .mov (.k (.d (.int .i64 (-1))))⟩])
 .ret)
 .skip))
 (.seq
 (.seq
 (.reg false [19] [⟨(some 17), none, false, .mov (.t 0)⟩,
 ⟨(some 18), none, false, .mov (.t 1)⟩,
 ⟨(some 19), none, false, .bin .gtr (.t 17) (.t 18)⟩])
 (.cond (.t 19)
 (.seq
 (.reg false [4] [⟨(some 4), none, false, .mov (.k (.d (.int .i64 1)))⟩])
 .ret)
 .skip))
 (.seq
 (.reg false [4] [⟨(some 4), none, false, .mov (.k (.d (.int .i64 0)))⟩])
 .ret))))))))
theorem c91 : (Go.Proofs.Try.f91).body.bind (comp prog.P (2, (Go.Proofs.Try.f91).ntmps) lv91) = some m91 := by kernel_rfl
theorem r91 : resOK prog.P (Go.Proofs.Try.f91).results.toList = true := by kernel_rfl

/-- spec.l24Party -/
def lv92 : List (Nat × List Nat) := [(0, [0]), (1, [2])]
def m92 : MC :=
  (.seq
 (.reg false [0] [⟨(some 2), none, false, .mov (.k (.d (.bool false)))⟩])
 (.seq
 (.reg false [2] [⟨(some 3), none, false, .mov (.t 0)⟩,
 ⟨(some 4), none, true, .call 131 [(.t 3), (.k (.d (.int .i64 1))), (.k (.d (.int .i64 50)))]⟩,
 ⟨(some 2), none, false, .mov (.t 4)⟩])
 .ret))
theorem c92 : (Go.Proofs.Try.f92).body.bind (comp prog.P (1, (Go.Proofs.Try.f92).ntmps) lv92) = some m92 := by kernel_rfl
theorem r92 : resOK prog.P (Go.Proofs.Try.f92).results.toList = true := by kernel_rfl

/-- spec.l1Cur).day24 -/
def lv93 : List (Nat × List Nat) := [(0, [0]), (1, [0, 2])]
def m93 : MC :=
  (.seq
 (.reg false [0] [⟨(some 2), none, false, .mov (.k (.d (.int .i64 0)))⟩])
 (.seq
 (.reg false [0, 2] [⟨(some 3), none, false, .mov (.t 0)⟩,
 ⟨(some 4), none, true, .bs 1 8 (.int .i64 0) [(0, (.k (.d (.int .i64 40)))), (1, (.k (.d (.int .i64 60)))), (2, (.k (.d (.int .i64 61)))), (3, (.k (.d (.int .i64 100)))), (4, (.k (.d (.int .i64 101)))), (5, (.k (.d (.int .i64 20000)))), (6, (.k (.d (.int .i64 (-1))))), (7, (.k (.d (.int .i64 20001))))]⟩,
 ⟨(some 5), none, false, .mov (.t 0)⟩,
 ⟨(some 6), none, true, .call 86 [(.t 5), (.k (.d (.int .i64 24)))]⟩,
 ⟨(some 7), none, false, .bin .quo (.t 6) (.k (.d (.int .i64 11)))⟩,
 ⟨(some 8), none, false, .bin .add (.k (.d (.int .i64 6))) (.t 7)⟩,
 ⟨(some 9), none, true, .cut 1 (.t 4) (.t 8)⟩,
 ⟨(some 10), none, true, .call 85 [(.t 3), (.t 9)]⟩,
 ⟨(some 2), none, false, .mov (.t 10)⟩])
 .ret))
theorem c93 : (Go.Proofs.Try.f93).body.bind (comp prog.P (1, (Go.Proofs.Try.f93).ntmps) lv93) = some m93 := by kernel_rfl
theorem r93 : resOK prog.P (Go.Proofs.Try.f93).results.toList = true := by kernel_rfl

/-- impl.isDay -/
def lv94 : List (Nat × List Nat) := [(0, [0]), (1, [2])]
def m94 : MC :=
  (.seq
 (.reg false [0] [⟨(some 2), none, false, .mov (.k (.d (.bool false)))⟩])
 (.seq
 (.reg false [2] [⟨(some 3), none, false, .mov (.t 0)⟩,
 ⟨(some 4), none, true, .call 111 [(.t 3), (.k (.d (.int .i64 0))), (.k (.d (.int .i64 20000)))]⟩,
 ⟨(some 2), none, false, .mov (.t 4)⟩])
 .ret))
theorem c94 : (Go.Proofs.Try.f94).body.bind (comp prog.P (1, (Go.Proofs.Try.f94).ntmps) lv94) = some m94 := by kernel_rfl
theorem r94 : resOK prog.P (Go.Proofs.Try.f94).results.toList = true := by kernel_rfl

/-- impl.copyAppeals -/
def lv95 : List (Nat × List Nat) := [(0, [0]), (1, [3]), (2, [3, 8, 9]), (3, [3, 8, 9, 10]), (4, [3, 4, 8, 9]), (5, [3, 8, 9]), (6, [3, 8, 9]), (7, [2]), (1000005, [4, 18, 19, 20, 21, 1, 0, 1, 1, 1, 2, 1, 3, 1, 4, 1, 5, 1, 6, 1, 7, 1, 8, 1, 10, 1, 11, 1, 12, 1, 13, 1, 14, 2, 9, 2, 15, 1, 16, 1, 17, 2, 18, 2, 19, 2, 20, 2, 21, 0])]
def m95 : MC :=
  (.seq
 (.reg false [0] [⟨(some 2), none, false, .mov (.k .nil)⟩])
 (.seq
 (.reg false [3] [⟨(some 5), none, false, .mov (.t 0)⟩,
 ⟨(some 6), none, true, .call 132 [(.t 5)]⟩,
 ⟨(some 3), none, false, .mov (.t 6)⟩])
 (.seq
 (.seq
 (.reg false [3, 8, 9] [⟨(some 7), none, false, .mov (.t 3)⟩,
 ⟨(some 8), none, false, .len false (.t 7)⟩,
 ⟨(some 9), none, false, .mov (.k (.d (.int .i64 0)))⟩])
 (.block 0
 (.loop
 (.seq
 (.reg false [3, 8, 9, 10] [⟨(some 10), none, false, .bin .lss (.t 9) (.t 8)⟩])
 (.seq
 (.cond (.t 10)
 .skip
 (.exit 0))
 (.seq
 (.block 1
 (.seq
 (.reg false [3, 4, 8, 9] [⟨(some 11), none, false, .mov (.t 9)⟩,
 ⟨(some 4), none, false, .mov (.t 11)⟩])
 (.any [18, 19, 20, 21] [3, 8, 9] (.q 0 ⟨(some 12), none, false, .mov (.t 3)⟩ (.q 1 ⟨(some 13), none, false, .mov (.t 4)⟩ (.q 2 ⟨(some 14), none, false, .mov (.t 3)⟩ (.q 3 ⟨(some 15), none, false, .mov (.t 4)⟩ (.q 4 ⟨(some 16), none, false, .mov (.t 3)⟩ (.q 5 ⟨(some 17), none, false, .mov (.t 4)⟩ (.q 6 ⟨(some 18), none, false, .ia 6 (.t 16) (.t 17)⟩ (.q 7 ⟨(some 19), none, false, .fa 3 3 (.t 18)⟩ (.q 8 ⟨(some 20), none, false, .ld none (.t 19)⟩ (.q 10 ⟨(some 22), none, false, .mov (.t 3)⟩ (.q 11 ⟨(some 23), none, false, .mov (.t 4)⟩ (.q 12 ⟨(some 24), none, false, .ia 6 (.t 22) (.t 23)⟩ (.q 13 ⟨(some 25), none, false, .fa 4 4 (.t 24)⟩ (.q 14 ⟨(some 26), none, false, .ld none (.t 25)⟩ (.e 9 ⟨(some 21), none, true, .call 68 [(.t 20)]⟩ (.e 15 ⟨(some 27), none, true, .call 68 [(.t 26)]⟩ (.q 16 ⟨(some 28), none, false, .ia 6 (.t 12) (.t 13)⟩ (.q 17 ⟨(some 29), none, false, .fa 3 3 (.t 28)⟩ (.e 18 ⟨none, none, true, .st 1 (.t 29) (.t 21)⟩ (.e 19 ⟨(some 30), none, false, .ia 6 (.t 14) (.t 15)⟩ (.e 20 ⟨(some 31), none, false, .fa 4 4 (.t 30)⟩ (.e 21 ⟨none, none, true, .st 1 (.t 31) (.t 27)⟩ .done)))))))))))))))))))))))))
 (.reg false [3, 8, 9] [⟨(some 32), none, false, .bin .add (.t 9) (.k (.d (.int .i64 1)))⟩,
 ⟨(some 9), none, false, .mov (.t 32)⟩])))))))
 (.seq
 (.reg false [2] [⟨(some 33), none, false, .mov (.t 3)⟩,
 ⟨(some 2), none, false, .mov (.t 33)⟩])
 .ret))))
theorem c95 : (Go.Proofs.Try.f95).body.bind (comp prog.P (1, (Go.Proofs.Try.f95).ntmps) lv95) = some m95 := by kernel_rfl
theorem r95 : resOK prog.P (Go.Proofs.Try.f95).results.toList = true := by kernel_rfl

/-- spec.l2Day -/
def lv96 : List (Nat × List Nat) := [(0, [0]), (1, [2])]
def m96 : MC :=
  (.seq
 (.reg false [0] [⟨(some 2), none, false, .mov (.k (.d (.bool false)))⟩])
 (.seq
 (.reg false [2] [⟨(some 3), none, false, .mov (.t 0)⟩,
 ⟨(some 4), none, true, .call 131 [(.t 3), (.k (.d (.int .i64 0))), (.k (.d (.int .i64 20000)))]⟩,
 ⟨(some 2), none, false, .mov (.t 4)⟩])
 .ret))
theorem c96 : (Go.Proofs.Try.f96).body.bind (comp prog.P (1, (Go.Proofs.Try.f96).ntmps) lv96) = some m96 := by kernel_rfl
theorem r96 : resOK prog.P (Go.Proofs.Try.f96).results.toList = true := by kernel_rfl

/-- spec.l24Own -/
def lv97 : List (Nat × List Nat) := [(0, [0]), (1, [0, 3]), (2, [0, 3, 4]), (3, [0, 3, 4, 10]), (4, [0, 3, 4]), (5, [0, 3, 4, 5]), (6, [0, 3, 4, 5]), (7, [0, 3, 4, 5]), (8, [0, 3, 4]), (9, [2])]
def m97 : MC :=
  (.seq
 (.reg false [0] [⟨(some 2), none, false, .mov (.k .nil)⟩])
 (.seq
 (.reg false [0, 3] [⟨(some 6), none, true, .bs 6 0 (.st (.cons (.int .i64 0) (.cons (.int .i64 0) (.cons (.int .i64 0) (.cons (.sl true 1 .nil) (.cons (.sl true 1 .nil) (.cons (.int .i64 0) .nil))))))) []⟩,
 ⟨(some 3), none, false, .mov (.t 6)⟩])
 (.seq
 (.seq
 (.reg false [0, 3, 4] [⟨(some 4), none, false, .mov (.k (.d (.int .i64 0)))⟩])
 (.block 0
 (.loop
 (.seq
 (.seq
 (.reg false [0, 3, 4, 10] [⟨(some 7), none, false, .mov (.t 4)⟩,
 ⟨(some 8), none, false, .mov (.t 0)⟩,
 ⟨(some 9), none, false, .len false (.t 8)⟩,
 ⟨(some 10), none, false, .bin .lss (.t 7) (.t 9)⟩])
 (.cond (.t 10)
 .skip
 (.exit 0)))
 (.seq
 (.block 1
 (.seq
 (.reg false [0, 3, 4, 5] [⟨(some 13), none, false, .mov (.t 0)⟩,
 ⟨(some 14), none, false, .mov (.t 4)⟩,
 ⟨(some 15), none, false, .ia 6 (.t 13) (.t 14)⟩,
 ⟨(some 16), none, false, .ld (some 6) (.t 15)⟩,
 ⟨(some 5), none, true, .alloc (.st (.cons (.int .i64 0) (.cons (.int .i64 0) (.cons (.int .i64 0) (.cons (.sl true 1 .nil) (.cons (.sl true 1 .nil) (.cons (.int .i64 0) .nil)))))))⟩,
 ⟨none, none, true, .st 6 (.t 5) (.t 16)⟩])
 (.seq
 (.reg false [0, 3, 4, 5] [⟨(some 17), none, false, .fa 3 3 (.t 5)⟩,
 ⟨(some 18), none, false, .ld none (.t 17)⟩,
 ⟨(some 19), none, true, .call 109 [(.t 18)]⟩,
 ⟨(some 20), none, false, .fa 3 3 (.t 5)⟩,
 ⟨none, none, true, .st 1 (.t 20) (.t 19)⟩])
 (.seq
 (.reg false [0, 3, 4, 5] [⟨(some 21), none, false, .fa 4 4 (.t 5)⟩,
 ⟨(some 22), none, false, .ld none (.t 21)⟩,
 ⟨(some 23), none, true, .call 109 [(.t 22)]⟩,
 ⟨(some 24), none, false, .fa 4 4 (.t 5)⟩,
 ⟨none, none, true, .st 1 (.t 24) (.t 23)⟩])
 (.reg false [0, 3, 4] [⟨(some 25), none, false, .mov (.t 3)⟩,
 ⟨(some 26), none, false, .ld (some 6) (.t 5)⟩,
 ⟨(some 27), none, true, .bs 6 1 (.st (.cons (.int .i64 0) (.cons (.int .i64 0) (.cons (.int .i64 0) (.cons (.sl true 1 .nil) (.cons (.sl true 1 .nil) (.cons (.int .i64 0) .nil))))))) [(0, (.t 26))]⟩,
 ⟨(some 28), none, true, .app 6 80 (.t 25) (.t 27)⟩,
 ⟨(some 3), none, false, .mov (.t 28)⟩])))))
 (.reg false [0, 3, 4] [⟨(some 11), none, false, .mov (.t 4)⟩,
 ⟨(some 12), none, false, .bin .add (.t 11) (.k (.d (.int .i64 1)))⟩,
 ⟨(some 4), none, false, .mov (.t 12)⟩]))))))
 (.seq
 (.reg false [2] [⟨(some 29), none, false, .mov (.t 3)⟩,
 ⟨(some 2), none, false, .mov (.t 29)⟩])
 .ret))))
theorem c97 : (Go.Proofs.Try.f97).body.bind (comp prog.P (1, (Go.Proofs.Try.f97).ntmps) lv97) = some m97 := by kernel_rfl
theorem r97 : resOK prog.P (Go.Proofs.Try.f97).results.toList = true := by kernel_rfl

/-- spec.l1Cur).appealId -/
def lv98 : List (Nat × List Nat) := [(0, [0, 1, 2]), (1, [0, 1, 2, 7]), (2, [0, 1, 2, 7, 8]), (3, [0, 1, 2, 7, 8, 13]), (4, [0, 1, 2, 7, 8]), (5, [0, 1, 2, 7, 8, 26]), (6, [0, 1, 2, 7, 8]), (7, [0, 7, 37]), (8, [0, 6]), (9, [0, 6])]
def m98 : MC :=
  (.seq
 (.reg false [0, 1, 2] [⟨(some 6), none, false, .mov (.k (.d (.int .i64 0)))⟩])
 (.seq
 (.reg false [0, 1, 2, 7] [⟨(some 9), none, true, .bs 1 0 (.int .i64 0) []⟩,
 ⟨(some 7), none, false, .mov (.t 9)⟩])
 (.seq
 (.seq
 (.reg false [0, 1, 2, 7, 8] [⟨(some 8), none, false, .mov (.k (.d (.int .i64 0)))⟩])
 (.block 0
 (.loop
 (.seq
 (.seq
 (.reg false [0, 1, 2, 7, 8, 13] [⟨(some 10), none, false, .mov (.t 8)⟩,
 ⟨(some 11), none, false, .mov (.t 1)⟩,
 ⟨(some 12), none, false, .len false (.t 11)⟩,
 ⟨(some 13), none, false, .bin .lss (.t 10) (.t 12)⟩])
 (.cond (.t 13)
 .skip
 (.exit 0)))
 (.seq
 (.block 1
 (.seq
 (.reg false [0, 1, 2, 7, 8, 26] [⟨(some 16), none, false, .mov (.t 1)⟩,
 ⟨(some 17), none, false, .mov (.t 8)⟩,
 ⟨(some 18), none, false, .ia 6 (.t 16) (.t 17)⟩,
 ⟨(some 19), none, false, .fa 5 5 (.t 18)⟩,
 ⟨(some 20), none, false, .ld none (.t 19)⟩,
 ⟨(some 21), none, false, .mov (.t 2)⟩,
 ⟨(some 22), none, false, .bin .eql (.t 20) (.t 21)⟩,
 ⟨(some 23), none, false, .mov (.t 22)⟩,
 ⟨(some 24), (some (23, false)), false, .mov (.t 0)⟩,
 ⟨(some 25), (some (23, false)), true, .call 102 [(.t 24), (.k (.d (.int .i64 6)))]⟩,
 ⟨(some 26), none, false, .pick (.t 23) (.k (.d (.bool true))) (.t 25)⟩])
 (.cond (.t 26)
 (.reg false [0, 1, 2, 7, 8] [⟨(some 27), none, false, .mov (.t 7)⟩,
 ⟨(some 28), none, false, .mov (.t 1)⟩,
 ⟨(some 29), none, false, .mov (.t 8)⟩,
 ⟨(some 30), none, false, .ia 6 (.t 28) (.t 29)⟩,
 ⟨(some 31), none, false, .fa 0 0 (.t 30)⟩,
 ⟨(some 32), none, false, .ld none (.t 31)⟩,
 ⟨(some 33), none, true, .bs 1 1 (.int .i64 0) [(0, (.t 32))]⟩,
 ⟨(some 34), none, true, .app 1 8 (.t 27) (.t 33)⟩,
 ⟨(some 7), none, false, .mov (.t 34)⟩])
 .skip)))
 (.reg false [0, 1, 2, 7, 8] [⟨(some 14), none, false, .mov (.t 8)⟩,
 ⟨(some 15), none, false, .bin .add (.t 14) (.k (.d (.int .i64 1)))⟩,
 ⟨(some 8), none, false, .mov (.t 15)⟩]))))))
 (.seq
 (.seq
 (.reg false [0, 7, 37] [⟨(some 35), none, false, .mov (.t 7)⟩,
 ⟨(some 36), none, false, .len false (.t 35)⟩,
 ⟨(some 37), none, false, .bin .eql (.t 36) (.k (.d (.int .i64 0)))⟩])
 (.cond (.t 37)
 (.seq
 (.reg false [0, 6] [⟨(some 38), none, false, .mov (.t 0)⟩,
 ⟨(some 39), none, true, .bs 1 4 (.int .i64 0) [(0, (.k (.d (.int .i64 0)))), (1, (.k (.d (.int .i64 1)))), (2, (.k (.d (.int .i64 2)))), (3, (.k (.d (.int .i64 500))))]⟩,
 ⟨(some 40), none, true, .call 85 [(.t 38), (.t 39)]⟩,
 ⟨(some 6), none, false, .mov (.t 40)⟩])
 .ret)
 .skip))
 (.seq
 (.reg false [0, 6] [⟨(some 41), none, false, .mov (.t 7)⟩,
 ⟨(some 42), none, false, .mov (.t 0)⟩,
 ⟨(some 43), none, false, .mov (.t 7)⟩,
 ⟨(some 44), none, false, .len false (.t 43)⟩,
 ⟨(some 45), none, true, .call 86 [(.t 42), (.t 44)]⟩,
 ⟨(some 46), none, false, .ia 1 (.t 41) (.t 45)⟩,
 ⟨(some 47), none, false, .ld none (.t 46)⟩,
 ⟨(some 6), none, false, .mov (.t 47)⟩])
 .ret)))))
theorem c98 : (Go.Proofs.Try.f98).body.bind (comp prog.P (3, (Go.Proofs.Try.f98).ntmps) lv98) = some m98 := by kernel_rfl
theorem r98 : resOK prog.P (Go.Proofs.Try.f98).results.toList = true := by kernel_rfl

/-- impl.areDays -/
def lv99 : List (Nat × List Nat) := [(0, [0, 1]), (1, [4])]
def m99 : MC :=
  (.seq
 (.reg false [0, 1] [⟨(some 4), none, false, .mov (.k (.d (.bool false)))⟩])
 (.seq
 (.reg false [4] [⟨(some 5), none, false, .mov (.t 0)⟩,
 ⟨(some 6), none, true, .call 94 [(.t 5)]⟩,
 ⟨(some 7), none, false, .mov (.t 6)⟩,
 ⟨(some 8), (some (7, true)), false, .mov (.t 1)⟩,
 ⟨(some 9), (some (7, true)), true, .call 94 [(.t 8)]⟩,
 ⟨(some 10), none, false, .pick (.t 7) (.t 9) (.k (.d (.bool false)))⟩,
 ⟨(some 11), none, false, .mov (.t 10)⟩,
 ⟨(some 12), (some (11, true)), false, .mov (.t 0)⟩,
 ⟨(some 13), (some (11, true)), false, .mov (.t 1)⟩,
 ⟨(some 14), (some (11, true)), false, .bin .leq (.t 12) (.t 13)⟩,
 ⟨(some 15), none, false, .pick (.t 11) (.t 14) (.k (.d (.bool false)))⟩,
 ⟨(some 4), none, false, .mov (.t 15)⟩])
 .ret))
theorem c99 : (Go.Proofs.Try.f99).body.bind (comp prog.P (2, (Go.Proofs.Try.f99).ntmps) lv99) = some m99 := by kernel_rfl
theorem r99 : resOK prog.P (Go.Proofs.Try.f99).results.toList = true := by kernel_rfl

/-- spec.l1Most -/
def lv100 : List (Nat × List Nat) := [(0, [0, 1]), (1, [0, 1, 7]), (2, [4]), (3, [4])]
def m100 : MC :=
  (.seq
 (.reg false [0, 1] [⟨(some 4), none, false, .mov (.k (.d (.int .i64 0)))⟩])
 (.seq
 (.seq
 (.reg false [0, 1, 7] [⟨(some 5), none, false, .mov (.t 0)⟩,
 ⟨(some 6), none, false, .mov (.t 1)⟩,
 ⟨(some 7), none, false, .bin .gtr (.t 5) (.t 6)⟩])
 (.cond (.t 7)
 (.seq
 (.reg false [4] [⟨(some 8), none, false, .mov (.t 0)⟩,
 ⟨(some 4), none, false, .mov (.t 8)⟩])
 .ret)
 .skip))
 (.seq
 (.reg false [4] [⟨(some 9), none, false, .mov (.t 1)⟩,
 ⟨(some 4), none, false, .mov (.t 9)⟩])
 .ret)))
theorem c100 : (Go.Proofs.Try.f100).body.bind (comp prog.P (2, (Go.Proofs.Try.f100).ntmps) lv100) = some m100 := by kernel_rfl
theorem r100 : resOK prog.P (Go.Proofs.Try.f100).results.toList = true := by kernel_rfl

/-- spec.DrawAreAppeals -/
def lv101 : List (Nat × List Nat) := [(0, [0]), (1, [3]), (2, [2])]
def m101 : MC :=
  (.seq
 (.reg false [0] [⟨(some 2), none, false, .mov (.k .nil)⟩])
 (.seq
 (.reg false [3] [⟨(some 4), none, false, .mov (.t 0)⟩,
 ⟨(some 5), none, true, .bld (.cons (.sl true 1 .nil) (.cons (.int .i64 0) (.cons (.int .u64 0) .nil))) [(0, (.t 4))]⟩,
 ⟨(some 6), none, true, .box (.t 5)⟩,
 ⟨(some 3), none, false, .mov (.t 6)⟩])
 (.seq
 (.reg false [2] [⟨(some 7), none, false, .mov (.t 3)⟩,
 ⟨(some 8), none, true, .call 84 [(.t 7)]⟩,
 ⟨(some 2), none, false, .mov (.t 8)⟩])
 .ret)))
theorem c101 : (Go.Proofs.Try.f101).body.bind (comp prog.P (1, (Go.Proofs.Try.f101).ntmps) lv101) = some m101 := by kernel_rfl
theorem r101 : resOK prog.P (Go.Proofs.Try.f101).results.toList = true := by kernel_rfl

/-- spec.l1Cur).one -/
def lv102 : List (Nat × List Nat) := [(0, [0, 1]), (1, [0, 4])]
def m102 : MC :=
  (.seq
 (.reg false [0, 1] [⟨(some 4), none, false, .mov (.k (.d (.bool false)))⟩])
 (.seq
 (.reg false [0, 4] [⟨(some 5), none, false, .mov (.t 0)⟩,
 ⟨(some 6), none, false, .mov (.t 1)⟩,
 ⟨(some 7), none, true, .call 86 [(.t 5), (.t 6)]⟩,
 ⟨(some 8), none, false, .bin .eql (.t 7) (.k (.d (.int .i64 0)))⟩,
 ⟨(some 4), none, false, .mov (.t 8)⟩])
 .ret))
theorem c102 : (Go.Proofs.Try.f102).body.bind (comp prog.P (2, (Go.Proofs.Try.f102).ntmps) lv102) = some m102 := by kernel_rfl
theorem r102 : resOK prog.P (Go.Proofs.Try.f102).results.toList = true := by kernel_rfl

/-- impl.Appeal).isPending -/
def lv105 : List (Nat × List Nat) := [(0, [1]), (1, [2])]
def m105 : MC :=
  (.seq
 (.reg false [1] [⟨(some 1), none, true, .box (.t 0)⟩,
 ⟨(some 2), none, false, .mov (.k (.d (.bool false)))⟩])
 (.seq
 (.reg false [2] [⟨(some 3), none, false, .fa 5 5 (.t 1)⟩,
 ⟨(some 4), none, false, .ld none (.t 3)⟩,
 ⟨(some 5), none, false, .bin .eql (.t 4) (.k (.d (.int .i64 0)))⟩,
 ⟨(some 6), none, false, .mov (.t 5)⟩,
 ⟨(some 7), (some (6, false)), false, .fa 5 5 (.t 1)⟩,
 ⟨(some 8), (some (6, false)), false, .ld none (.t 7)⟩,
 ⟨(some 9), (some (6, false)), false, .bin .eql (.t 8) (.k (.d (.int .i64 1)))⟩,
 ⟨(some 10), none, false, .pick (.t 6) (.k (.d (.bool true))) (.t 9)⟩,
 ⟨(some 2), none, false, .mov (.t 10)⟩])
 .ret))
theorem c105 : (Go.Proofs.Try.f105).body.bind (comp prog.P (1, (Go.Proofs.Try.f105).ntmps) lv105) = some m105 := by kernel_rfl
theorem r105 : resOK prog.P (Go.Proofs.Try.f105).results.toList = true := by kernel_rfl

/-- slices.ContainsFunc[[]impl.Appeal,impl.Appeal] -/
def lv106 : List (Nat × List Nat) := [(0, [0, 1]), (1, [4])]
def m106 : MC :=
  (.seq
 (.reg false [0, 1] [⟨(some 4), none, false, .mov (.k (.d (.bool false)))⟩])
 (.seq
 (.reg false [4] [⟨(some 5), none, false, .mov (.t 0)⟩,
 ⟨(some 6), none, false, .mov (.t 1)⟩,
 ⟨(some 7), none, true, .call 119 [(.t 5), (.t 6)]⟩,
 ⟨(some 8), none, false, .bin .geq (.t 7) (.k (.d (.int .i64 0)))⟩,
 ⟨(some 4), none, false, .mov (.t 8)⟩])
 .ret))
theorem c106 : (Go.Proofs.Try.f106).body.bind (comp prog.P (2, (Go.Proofs.Try.f106).ntmps) lv106) = some m106 := by kernel_rfl
theorem r106 : resOK prog.P (Go.Proofs.Try.f106).results.toList = true := by kernel_rfl

/-- impl.AreAppeals$1 -/
def lv107 : List (Nat × List Nat) := [(0, [1, 2]), (1, [3])]
def m107 : MC :=
  (.seq
 (.reg false [1, 2] [⟨(some 2), none, true, .box (.t 0)⟩,
 ⟨(some 3), none, false, .mov (.k (.d (.bool false)))⟩])
 (.seq
 (.reg false [3] [⟨(some 4), none, false, .fa 1 1 (.t 2)⟩,
 ⟨(some 5), none, false, .ld none (.t 4)⟩,
 ⟨(some 6), none, false, .fa 1 1 (.t 1)⟩,
 ⟨(some 7), none, false, .ld none (.t 6)⟩,
 ⟨(some 8), none, false, .bin .eql (.t 5) (.t 7)⟩,
 ⟨(some 9), none, false, .mov (.t 8)⟩,
 ⟨(some 10), (some (9, true)), false, .ld (some 6) (.t 2)⟩,
 ⟨(some 11), (some (9, true)), true, .call 105 [(.t 10)]⟩,
 ⟨(some 12), none, false, .pick (.t 9) (.t 11) (.k (.d (.bool false)))⟩,
 ⟨(some 3), none, false, .mov (.t 12)⟩])
 .ret))
theorem c107 : (Go.Proofs.Try.f107).body.bind (comp prog.P (2, (Go.Proofs.Try.f107).ntmps) lv107) = some m107 := by kernel_rfl
theorem r107 : resOK prog.P (Go.Proofs.Try.f107).results.toList = true := by kernel_rfl
theorem en107 : enterOK prog.P 107 = true := by kernel_rfl

/-- spec.l1Cur).parties -/
def lv108 : List (Nat × List Nat) := [(0, [0]), (1, [0, 3]), (2, [0, 3, 4]), (3, [0, 3, 4, 5]), (4, [0, 3, 4, 5, 10]), (5, [0, 3, 4, 5]), (6, [0, 3, 4, 5]), (7, [0, 3, 4, 5]), (8, [0, 3, 4, 23]), (9, [0, 3, 4, 23, 24]), (10, [0, 3]), (11, [0, 3, 4, 32]), (12, [0, 3, 4, 39]), (13, [0, 3, 4]), (14, [0, 3, 4]), (15, [0, 2])]
def m108 : MC :=
  (.seq
 (.reg false [0] [⟨(some 2), none, false, .mov (.k .nil)⟩])
 (.seq
 (.reg false [0, 3] [⟨(some 6), none, true, .bs 1 0 (.int .i64 0) []⟩,
 ⟨(some 3), none, false, .mov (.t 6)⟩])
 (.seq
 (.reg false [0, 3, 4] [⟨(some 4), none, false, .mov (.k (.d (.int .i64 0)))⟩])
 (.seq
 (.seq
 (.reg false [0, 3, 4, 5] [⟨(some 7), none, false, .mov (.t 0)⟩,
 ⟨(some 8), none, true, .call 86 [(.t 7), (.k (.d (.int .i64 4)))]⟩,
 ⟨(some 5), none, false, .mov (.t 8)⟩])
 (.block 0
 (.loop
 (.seq
 (.seq
 (.reg false [0, 3, 4, 5, 10] [⟨(some 9), none, false, .mov (.t 5)⟩,
 ⟨(some 10), none, false, .bin .gtr (.t 9) (.k (.d (.int .i64 0)))⟩])
 (.cond (.t 10)
 .skip
 (.exit 0)))
 (.seq
 (.block 1
 (.seq
 (.reg false [0, 3, 4, 5] [⟨(some 13), none, false, .mov (.t 4)⟩,
 ⟨(some 14), none, false, .bin .add (.t 13) (.k (.d (.int .i64 1)))⟩,
 ⟨(some 15), none, false, .mov (.t 0)⟩,
 ⟨(some 16), none, true, .call 86 [(.t 15), (.k (.d (.int .i64 3)))]⟩,
 ⟨(some 17), none, false, .bin .add (.t 14) (.t 16)⟩,
 ⟨(some 4), none, false, .mov (.t 17)⟩])
 (.reg false [0, 3, 4, 5] [⟨(some 18), none, false, .mov (.t 3)⟩,
 ⟨(some 19), none, false, .mov (.t 4)⟩,
 ⟨(some 20), none, true, .bs 1 1 (.int .i64 0) [(0, (.t 19))]⟩,
 ⟨(some 21), none, true, .app 1 8 (.t 18) (.t 20)⟩,
 ⟨(some 3), none, false, .mov (.t 21)⟩])))
 (.reg false [0, 3, 4, 5] [⟨(some 11), none, false, .mov (.t 5)⟩,
 ⟨(some 12), none, false, .bin .sub (.t 11) (.k (.d (.int .i64 1)))⟩,
 ⟨(some 5), none, false, .mov (.t 12)⟩]))))))
 (.seq
 (.seq
 (.reg false [0, 3, 4, 23] [⟨(some 22), none, false, .mov (.t 0)⟩,
 ⟨(some 23), none, true, .call 86 [(.t 22), (.k (.d (.int .i64 40)))]⟩])
 (.block 2
 (.seq
 (.reg false [0, 3, 4, 23, 24] [⟨(some 25), none, false, .bin .eql (.t 23) (.k (.d (.int .i64 0)))⟩,
 ⟨(some 24), none, false, .mov (.t 25)⟩])
 (.cond (.t 24)
 (.reg false [0, 3] [⟨(some 26), none, false, .mov (.t 3)⟩,
 ⟨(some 27), none, false, .mov (.t 0)⟩,
 ⟨(some 28), none, true, .bs 1 4 (.int .i64 0) [(0, (.k (.d (.int .i64 0)))), (1, (.k (.d (.int .i64 50)))), (2, (.k (.d (.int .i64 51)))), (3, (.k (.d (.int .i64 1))))]⟩,
 ⟨(some 29), none, true, .call 85 [(.t 27), (.t 28)]⟩,
 ⟨(some 30), none, true, .bs 1 1 (.int .i64 0) [(0, (.t 29))]⟩,
 ⟨(some 31), none, true, .app 1 8 (.t 26) (.t 30)⟩,
 ⟨(some 3), none, false, .mov (.t 31)⟩])
 (.seq
 (.reg false [0, 3, 4, 32] [⟨(some 33), none, false, .bin .eql (.t 23) (.k (.d (.int .i64 1)))⟩,
 ⟨(some 32), none, false, .mov (.t 33)⟩])
 (.cond (.t 32)
 (.block 3
 (.loop
 (.seq
 (.seq
 (.reg false [0, 3, 4, 39] [⟨(some 34), none, false, .mov (.t 3)⟩,
 ⟨(some 35), none, false, .len false (.t 34)⟩,
 ⟨(some 36), none, false, .mov (.t 0)⟩,
 ⟨(some 37), none, true, .call 86 [(.t 36), (.k (.d (.int .i64 2)))]⟩,
 ⟨(some 38), none, false, .bin .add (.k (.d (.int .i64 6))) (.t 37)⟩,
 ⟨(some 39), none, false, .bin .lss (.t 35) (.t 38)⟩])
 (.cond (.t 39)
 .skip
 (.exit 3)))
 (.block 4
 (.seq
 (.reg false [0, 3, 4] [⟨(some 40), none, false, .mov (.t 4)⟩,
 ⟨(some 41), none, false, .bin .add (.t 40) (.k (.d (.int .i64 1)))⟩,
 ⟨(some 4), none, false, .mov (.t 41)⟩])
 (.reg false [0, 3, 4] [⟨(some 42), none, false, .mov (.t 3)⟩,
 ⟨(some 43), none, false, .mov (.t 4)⟩,
 ⟨(some 44), none, true, .bs 1 1 (.int .i64 0) [(0, (.t 43))]⟩,
 ⟨(some 45), none, true, .app 1 8 (.t 42) (.t 44)⟩,
 ⟨(some 3), none, false, .mov (.t 45)⟩]))))))
 .skip))))))
 (.seq
 (.reg false [0, 2] [⟨(some 46), none, false, .mov (.t 3)⟩,
 ⟨(some 2), none, false, .mov (.t 46)⟩])
 .ret))))))
theorem c108 : (Go.Proofs.Try.f108).body.bind (comp prog.P (1, (Go.Proofs.Try.f108).ntmps) lv108) = some m108 := by kernel_rfl
theorem r108 : resOK prog.P (Go.Proofs.Try.f108).results.toList = true := by kernel_rfl

/-- spec.l1Own -/
def lv109 : List (Nat × List Nat) := [(0, [0]), (1, [2])]
def m109 : MC :=
  (.seq
 (.reg false [0] [⟨(some 2), none, false, .mov (.k .nil)⟩])
 (.seq
 (.reg false [2] [⟨(some 3), none, true, .bs 1 0 (.int .i64 0) []⟩,
 ⟨(some 4), none, false, .mov (.t 0)⟩,
 ⟨(some 5), none, true, .app 1 8 (.t 3) (.t 4)⟩,
 ⟨(some 2), none, false, .mov (.t 5)⟩])
 .ret))
theorem c109 : (Go.Proofs.Try.f109).body.bind (comp prog.P (1, (Go.Proofs.Try.f109).ntmps) lv109) = some m109 := by kernel_rfl
theorem r109 : resOK prog.P (Go.Proofs.Try.f109).results.toList = true := by kernel_rfl

/-- spec.l1Cur).appeal -/
def lv110 : List (Nat × List Nat) := [(0, [0, 1, 4]), (1, [0, 4, 5]), (2, [0, 4, 5, 6]), (3, [0, 4, 5, 6, 21]), (4, [0, 4, 5, 6]), (5, [0, 4, 5, 6, 25]), (6, [0, 4, 5, 6]), (7, [0, 4, 5]), (8, [0, 4, 5, 46]), (9, [0, 4, 5]), (10, [0, 4, 5, 52]), (11, [0, 4, 5, 52, 53]), (12, [0, 4, 5]), (13, [0, 4, 5, 52, 59]), (14, [0, 4, 5]), (15, [0, 4, 5, 52, 65]), (16, [0, 4, 5]), (17, [0, 4, 5, 52, 71]), (18, [0, 4, 5]), (19, [0, 4, 5, 81]), (20, [0, 4, 5]), (21, [0, 4]), (1000006, [1, 10, 1, 0, 1, 1, 1, 2, 1, 3, 1, 4, 1, 5, 1, 6, 2, 7, 2, 8, 1, 9, 2, 10, 0]), (1000018, [1, 8, 1, 0, 1, 1, 1, 2, 2, 3, 2, 4, 2, 5, 2, 6, 1, 7, 2, 8, 0])]
def m110 : MC :=
  (.seq
 (.reg false [0, 1, 4] [⟨(some 4), none, true, .alloc (.st (.cons (.int .i64 0) (.cons (.int .i64 0) (.cons (.int .i64 0) (.cons (.sl true 1 .nil) (.cons (.sl true 1 .nil) (.cons (.int .i64 0) .nil)))))))⟩])
 (.seq
 (.reg false [0, 4, 5] [⟨(some 7), none, false, .mov (.t 1)⟩,
 ⟨(some 8), none, false, .mov (.t 0)⟩,
 ⟨(some 9), none, true, .bs 1 5 (.int .i64 0) [(0, (.k (.d (.int .i64 1)))), (1, (.k (.d (.int .i64 2)))), (2, (.k (.d (.int .i64 3)))), (3, (.k (.d (.int .i64 7)))), (4, (.k (.d (.int .i64 999))))]⟩,
 ⟨(some 10), none, true, .call 85 [(.t 8), (.t 9)]⟩,
 ⟨(some 11), none, false, .mov (.t 0)⟩,
 ⟨(some 12), none, true, .bs 1 5 (.int .i64 0) [(0, (.k (.d (.int .i64 0)))), (1, (.k (.d (.int .i64 40)))), (2, (.k (.d (.int .i64 40)))), (3, (.k (.d (.int .i64 100)))), (4, (.k (.d (.int .i64 19950))))]⟩,
 ⟨(some 13), none, true, .call 85 [(.t 11), (.t 12)]⟩,
 ⟨(some 14), none, false, .mov (.t 0)⟩,
 ⟨(some 15), none, true, .call 108 [(.t 14)]⟩,
 ⟨(some 16), none, true, .bld (.cons (.int .i64 0) (.cons (.int .i64 0) (.cons (.int .i64 0) (.cons (.sl true 1 .nil) (.cons (.sl true 1 .nil) (.cons (.int .i64 0) .nil)))))) [(0, (.t 7)), (1, (.t 10)), (2, (.t 13)), (3, (.t 15))]⟩,
 ⟨(some 5), none, true, .alloc (.st (.cons (.int .i64 0) (.cons (.int .i64 0) (.cons (.int .i64 0) (.cons (.sl true 1 .nil) (.cons (.sl true 1 .nil) (.cons (.int .i64 0) .nil)))))))⟩,
 ⟨none, none, true, .st 6 (.t 5) (.t 16)⟩])
 (.seq
 (.seq
 (.reg false [0, 4, 5, 6] [⟨(some 6), none, false, .mov (.k (.d (.int .i64 0)))⟩])
 (.block 0
 (.loop
 (.seq
 (.seq
 (.reg false [0, 4, 5, 6, 21] [⟨(some 17), none, false, .mov (.t 6)⟩,
 ⟨(some 18), none, false, .fa 3 3 (.t 5)⟩,
 ⟨(some 19), none, false, .ld none (.t 18)⟩,
 ⟨(some 20), none, false, .len false (.t 19)⟩,
 ⟨(some 21), none, false, .bin .lss (.t 17) (.t 20)⟩])
 (.cond (.t 21)
 .skip
 (.exit 0)))
 (.seq
 (.block 1
 (.seq
 (.reg false [0, 4, 5, 6, 25] [⟨(some 24), none, false, .mov (.t 0)⟩,
 ⟨(some 25), none, true, .call 102 [(.t 24), (.k (.d (.int .i64 2)))]⟩])
 (.cond (.t 25)
 (.any [10] [0, 4, 5, 6] (.q 0 ⟨(some 26), none, false, .fa 4 4 (.t 5)⟩ (.q 1 ⟨(some 27), none, false, .ld none (.t 26)⟩ (.q 2 ⟨(some 28), none, false, .fa 3 3 (.t 5)⟩ (.q 3 ⟨(some 29), none, false, .ld none (.t 28)⟩ (.q 4 ⟨(some 30), none, false, .mov (.t 6)⟩ (.q 5 ⟨(some 31), none, false, .ia 1 (.t 29) (.t 30)⟩ (.q 6 ⟨(some 32), none, false, .ld none (.t 31)⟩ (.e 7 ⟨(some 33), none, true, .bs 1 1 (.int .i64 0) [(0, (.t 32))]⟩ (.e 8 ⟨(some 34), none, true, .app 1 8 (.t 27) (.t 33)⟩ (.q 9 ⟨(some 35), none, false, .fa 4 4 (.t 5)⟩ (.e 10 ⟨none, none, true, .st 1 (.t 35) (.t 34)⟩ .done))))))))))))
 .skip)))
 (.reg false [0, 4, 5, 6] [⟨(some 22), none, false, .mov (.t 6)⟩,
 ⟨(some 23), none, false, .bin .add (.t 22) (.k (.d (.int .i64 1)))⟩,
 ⟨(some 6), none, false, .mov (.t 23)⟩]))))))
 (.seq
 (.reg false [0, 4, 5] [⟨(some 36), none, false, .mov (.t 0)⟩,
 ⟨(some 37), none, true, .bs 1 4 (.int .i64 0) [(0, (.k (.d (.int .i64 0)))), (1, (.k (.d (.int .i64 0)))), (2, (.k (.d (.int .i64 0)))), (3, (.k (.d (.int .i64 4))))]⟩,
 ⟨(some 38), none, true, .call 85 [(.t 36), (.t 37)]⟩,
 ⟨(some 39), none, false, .fa 5 5 (.t 5)⟩,
 ⟨none, none, true, .st 1 (.t 39) (.t 38)⟩])
 (.seq
 (.seq
 (.reg false [0, 4, 5, 46] [⟨(some 40), none, false, .fa 4 4 (.t 5)⟩,
 ⟨(some 41), none, false, .ld none (.t 40)⟩,
 ⟨(some 42), none, false, .len false (.t 41)⟩,
 ⟨(some 43), none, false, .fa 3 3 (.t 5)⟩,
 ⟨(some 44), none, false, .ld none (.t 43)⟩,
 ⟨(some 45), none, false, .len false (.t 44)⟩,
 ⟨(some 46), none, false, .bin .eql (.t 42) (.t 45)⟩])
 (.cond (.t 46)
 (.reg false [0, 4, 5] [⟨(some 47), none, false, .mov (.t 0)⟩,
 ⟨(some 48), none, true, .call 86 [(.t 47), (.k (.d (.int .i64 3)))]⟩,
 ⟨(some 49), none, false, .bin .add (.k (.d (.int .i64 1))) (.t 48)⟩,
 ⟨(some 50), none, false, .fa 5 5 (.t 5)⟩,
 ⟨none, none, true, .st 1 (.t 50) (.t 49)⟩])
 .skip))
 (.seq
 (.seq
 (.reg false [0, 4, 5, 52] [⟨(some 51), none, false, .mov (.t 0)⟩,
 ⟨(some 52), none, true, .call 86 [(.t 51), (.k (.d (.int .i64 80)))]⟩])
 (.block 2
 (.seq
 (.reg false [0, 4, 5, 52, 53] [⟨(some 54), none, false, .bin .eql (.t 52) (.k (.d (.int .i64 0)))⟩,
 ⟨(some 53), none, false, .mov (.t 54)⟩])
 (.cond (.t 53)
 (.reg false [0, 4, 5] [⟨(some 55), none, false, .mov (.t 0)⟩,
 ⟨(some 56), none, true, .bs 1 3 (.int .i64 0) [(0, (.k (.d (.int .i64 0)))), (1, (.k (.d (.int .i64 999)))), (2, (.k (.d (.int .i64 1000))))]⟩,
 ⟨(some 57), none, true, .call 85 [(.t 55), (.t 56)]⟩,
 ⟨(some 58), none, false, .fa 0 0 (.t 5)⟩,
 ⟨none, none, true, .st 1 (.t 58) (.t 57)⟩])
 (.seq
 (.reg false [0, 4, 5, 52, 59] [⟨(some 60), none, false, .bin .eql (.t 52) (.k (.d (.int .i64 1)))⟩,
 ⟨(some 59), none, false, .mov (.t 60)⟩])
 (.cond (.t 59)
 (.reg false [0, 4, 5] [⟨(some 61), none, false, .mov (.t 0)⟩,
 ⟨(some 62), none, true, .bs 1 2 (.int .i64 0) [(0, (.k (.d (.int .i64 0)))), (1, (.k (.d (.int .i64 1000))))]⟩,
 ⟨(some 63), none, true, .call 85 [(.t 61), (.t 62)]⟩,
 ⟨(some 64), none, false, .fa 1 1 (.t 5)⟩,
 ⟨none, none, true, .st 1 (.t 64) (.t 63)⟩])
 (.seq
 (.reg false [0, 4, 5, 52, 65] [⟨(some 66), none, false, .bin .eql (.t 52) (.k (.d (.int .i64 2)))⟩,
 ⟨(some 65), none, false, .mov (.t 66)⟩])
 (.cond (.t 65)
 (.reg false [0, 4, 5] [⟨(some 67), none, false, .mov (.t 0)⟩,
 ⟨(some 68), none, true, .bs 1 2 (.int .i64 0) [(0, (.k (.d (.int .i64 (-1))))), (1, (.k (.d (.int .i64 20001))))]⟩,
 ⟨(some 69), none, true, .call 85 [(.t 67), (.t 68)]⟩,
 ⟨(some 70), none, false, .fa 2 2 (.t 5)⟩,
 ⟨none, none, true, .st 1 (.t 70) (.t 69)⟩])
 (.seq
 (.reg false [0, 4, 5, 52, 71] [⟨(some 72), none, false, .bin .eql (.t 52) (.k (.d (.int .i64 3)))⟩,
 ⟨(some 71), none, false, .mov (.t 72)⟩])
 (.cond (.t 71)
 (.any [8] [0, 4, 5] (.q 0 ⟨(some 73), none, false, .fa 4 4 (.t 5)⟩ (.q 1 ⟨(some 74), none, false, .ld none (.t 73)⟩ (.q 2 ⟨(some 75), none, false, .mov (.t 0)⟩ (.e 3 ⟨(some 76), none, true, .bs 1 2 (.int .i64 0) [(0, (.k (.d (.int .i64 0)))), (1, (.k (.d (.int .i64 49))))]⟩ (.e 4 ⟨(some 77), none, true, .call 85 [(.t 75), (.t 76)]⟩ (.e 5 ⟨(some 78), none, true, .bs 1 1 (.int .i64 0) [(0, (.t 77))]⟩ (.e 6 ⟨(some 79), none, true, .app 1 8 (.t 74) (.t 78)⟩ (.q 7 ⟨(some 80), none, false, .fa 4 4 (.t 5)⟩ (.e 8 ⟨none, none, true, .st 1 (.t 80) (.t 79)⟩ .done))))))))))
 (.seq
 (.reg false [0, 4, 5, 81] [⟨(some 82), none, false, .bin .eql (.t 52) (.k (.d (.int .i64 4)))⟩,
 ⟨(some 81), none, false, .mov (.t 82)⟩])
 (.cond (.t 81)
 (.reg false [0, 4, 5] [⟨(some 83), none, false, .mov (.t 0)⟩,
 ⟨(some 84), none, true, .bs 1 4 (.int .i64 0) [(0, (.k (.d (.int .i64 (-1))))), (1, (.k (.d (.int .i64 0)))), (2, (.k (.d (.int .i64 2)))), (3, (.k (.d (.int .i64 5))))]⟩,
 ⟨(some 85), none, true, .call 85 [(.t 83), (.t 84)]⟩,
 ⟨(some 86), none, false, .fa 5 5 (.t 5)⟩,
 ⟨none, none, true, .st 1 (.t 86) (.t 85)⟩])
 .skip))))))))))))
 (.seq
 (.reg false [0, 4] [⟨(some 87), none, false, .ld (some 6) (.t 5)⟩,
 ⟨none, none, true, .st 6 (.t 4) (.t 87)⟩])
 .ret)))))))
theorem c110 : (Go.Proofs.Try.f110).body.bind (comp prog.P (2, (Go.Proofs.Try.f110).ntmps) lv110) = some m110 := by kernel_rfl
theorem r110 : resOK prog.P (Go.Proofs.Try.f110).results.toList = true := by kernel_rfl

/-- impl.within -/
def lv111 : List (Nat × List Nat) := [(0, [0, 1, 2]), (1, [6])]
def m111 : MC :=
  (.seq
 (.reg false [0, 1, 2] [⟨(some 6), none, false, .mov (.k (.d (.bool false)))⟩])
 (.seq
 (.reg false [6] [⟨(some 7), none, false, .mov (.t 1)⟩,
 ⟨(some 8), none, false, .mov (.t 0)⟩,
 ⟨(some 9), none, false, .bin .leq (.t 7) (.t 8)⟩,
 ⟨(some 10), none, false, .mov (.t 9)⟩,
 ⟨(some 11), (some (10, true)), false, .mov (.t 0)⟩,
 ⟨(some 12), (some (10, true)), false, .mov (.t 2)⟩,
 ⟨(some 13), (some (10, true)), false, .bin .leq (.t 11) (.t 12)⟩,
 ⟨(some 14), none, false, .pick (.t 10) (.t 13) (.k (.d (.bool false)))⟩,
 ⟨(some 6), none, false, .mov (.t 14)⟩])
 .ret))
theorem c111 : (Go.Proofs.Try.f111).body.bind (comp prog.P (3, (Go.Proofs.Try.f111).ntmps) lv111) = some m111 := by kernel_rfl
theorem r111 : resOK prog.P (Go.Proofs.Try.f111).results.toList = true := by kernel_rfl

/-- impl.areRising -/
def lv112 : List (Nat × List Nat) := [(0, [0]), (1, [0, 3]), (2, [0, 3, 7]), (3, [0, 3]), (4, [0, 3, 19]), (5, [2]), (6, [2])]
def m112 : MC :=
  (.seq
 (.reg false [0] [⟨(some 2), none, false, .mov (.k (.d (.bool false)))⟩])
 (.seq
 (.seq
 (.reg false [0, 3] [⟨(some 3), none, false, .mov (.k (.d (.int .i64 1)))⟩])
 (.block 0
 (.loop
 (.seq
 (.seq
 (.reg false [0, 3, 7] [⟨(some 4), none, false, .mov (.t 3)⟩,
 ⟨(some 5), none, false, .mov (.t 0)⟩,
 ⟨(some 6), none, false, .len false (.t 5)⟩,
 ⟨(some 7), none, false, .bin .lss (.t 4) (.t 6)⟩])
 (.cond (.t 7)
 .skip
 (.exit 0)))
 (.seq
 (.block 1
 (.seq
 (.reg true [0, 3, 19] [⟨(some 10), none, false, .mov (.t 0)⟩,
 ⟨(some 11), none, false, .mov (.t 3)⟩,
 ⟨(some 12), none, false, .bin .sub (.t 11) (.k (.d (.int .i64 1)))⟩,
 ⟨(some 13), none, false, .ia 1 (.t 10) (.t 12)⟩,
 ⟨(some 14), none, false, .ld none (.t 13)⟩,
 ⟨(some 15), none, false, .mov (.t 0)⟩,
 ⟨(some 16), none, false, .mov (.t 3)⟩,
 ⟨(some 17), none, false, .ia 1 (.t 15) (.t 16)⟩,
 ⟨(some 18), none, false, .ld none (.t 17)⟩,
 ⟨(some 19), none, false, .bin .geq (.t 14) (.t 18)⟩])
 (.cond (.t 19)
 (.seq
 (.reg false [2] [⟨(some 2), none, false, .mov (.k (.d (.bool false)))⟩])
 .ret)
 .skip)))
 (.reg false [0, 3] [⟨(some 8), none, false, .mov (.t 3)⟩,
 ⟨(some 9), none, false, .bin .add (.t 8) (.k (.d (.int .i64 1)))⟩,
 ⟨(some 3), none, false, .mov (.t 9)⟩]))))))
 (.seq
 (.reg false [2] [⟨(some 2), none, false, .mov (.k (.d (.bool true)))⟩])
 .ret)))
theorem c112 : (Go.Proofs.Try.f112).body.bind (comp prog.P (1, (Go.Proofs.Try.f112).ntmps) lv112) = some m112 := by kernel_rfl
theorem r112 : resOK prog.P (Go.Proofs.Try.f112).results.toList = true := by kernel_rfl

/-- slices.ContainsFunc[[]int,int] -/
def lv113 : List (Nat × List Nat) := [(0, [0, 1]), (1, [4])]
def m113 : MC :=
  (.seq
 (.reg false [0, 1] [⟨(some 4), none, false, .mov (.k (.d (.bool false)))⟩])
 (.seq
 (.reg false [4] [⟨(some 5), none, false, .mov (.t 0)⟩,
 ⟨(some 6), none, false, .mov (.t 1)⟩,
 ⟨(some 7), none, true, .call 121 [(.t 5), (.t 6)]⟩,
 ⟨(some 8), none, false, .bin .geq (.t 7) (.k (.d (.int .i64 0)))⟩,
 ⟨(some 4), none, false, .mov (.t 8)⟩])
 .ret))
theorem c113 : (Go.Proofs.Try.f113).body.bind (comp prog.P (2, (Go.Proofs.Try.f113).ntmps) lv113) = some m113 := by kernel_rfl
theorem r113 : resOK prog.P (Go.Proofs.Try.f113).results.toList = true := by kernel_rfl

/-- impl.IsAppeal$1 -/
def lv114 : List (Nat × List Nat) := [(0, [0]), (1, [2])]
def m114 : MC :=
  (.seq
 (.reg false [0] [⟨(some 2), none, false, .mov (.k (.d (.bool false)))⟩])
 (.seq
 (.reg false [2] [⟨(some 3), none, false, .mov (.t 0)⟩,
 ⟨(some 4), none, true, .call 87 [(.t 3)]⟩,
 ⟨(some 5), none, false, .un .not (.t 4)⟩,
 ⟨(some 2), none, false, .mov (.t 5)⟩])
 .ret))
theorem c114 : (Go.Proofs.Try.f114).body.bind (comp prog.P (1, (Go.Proofs.Try.f114).ntmps) lv114) = some m114 := by kernel_rfl
theorem r114 : resOK prog.P (Go.Proofs.Try.f114).results.toList = true := by kernel_rfl
theorem en114 : enterOK prog.P 114 = true := by kernel_rfl

/-- impl.IsAppeal$2 -/
def lv115 : List (Nat × List Nat) := [(0, [0, 1]), (1, [3])]
def m115 : MC :=
  (.seq
 (.reg false [0, 1] [⟨(some 3), none, false, .mov (.k (.d (.bool false)))⟩])
 (.seq
 (.reg false [3] [⟨(some 4), none, false, .fa 3 3 (.t 1)⟩,
 ⟨(some 5), none, false, .ld none (.t 4)⟩,
 ⟨(some 6), none, false, .mov (.t 0)⟩,
 ⟨(some 7), none, true, .call 70 [(.t 5), (.t 6)]⟩,
 ⟨(some 8), none, false, .un .not (.t 7)⟩,
 ⟨(some 3), none, false, .mov (.t 8)⟩])
 .ret))
theorem c115 : (Go.Proofs.Try.f115).body.bind (comp prog.P (2, (Go.Proofs.Try.f115).ntmps) lv115) = some m115 := by kernel_rfl
theorem r115 : resOK prog.P (Go.Proofs.Try.f115).results.toList = true := by kernel_rfl
theorem en115 : enterOK prog.P 115 = true := by kernel_rfl

/-- spec.l24One -/
def lv116 : List (Nat × List Nat) := [(0, [1]), (1, [1, 43]), (2, [2]), (3, [1, 3]), (4, [1, 3, 48]), (5, [1, 3]), (6, [1, 3, 59]), (7, [2]), (8, [2])]
def m116 : MC :=
  (.seq
 (.reg false [1] [⟨(some 1), none, true, .box (.t 0)⟩,
 ⟨(some 2), none, false, .mov (.k (.d (.bool false)))⟩])
 (.seq
 (.seq
 (.reg false [1, 43] [⟨(some 4), none, false, .fa 0 0 (.t 1)⟩,
 ⟨(some 5), none, false, .ld none (.t 4)⟩,
 ⟨(some 6), none, true, .call 131 [(.t 5), (.k (.d (.int .i64 1))), (.k (.d (.int .i64 999)))]⟩,
 ⟨(some 7), none, false, .un .not (.t 6)⟩,
 ⟨(some 8), none, false, .mov (.t 7)⟩,
 ⟨(some 9), (some (8, false)), false, .fa 1 1 (.t 1)⟩,
 ⟨(some 10), (some (8, false)), false, .ld none (.t 9)⟩,
 ⟨(some 11), (some (8, false)), true, .call 131 [(.t 10), (.k (.d (.int .i64 1))), (.k (.d (.int .i64 999)))]⟩,
 ⟨(some 12), (some (8, false)), false, .un .not (.t 11)⟩,
 ⟨(some 13), none, false, .pick (.t 8) (.k (.d (.bool true))) (.t 12)⟩,
 ⟨(some 14), none, false, .mov (.t 13)⟩,
 ⟨(some 15), (some (14, false)), false, .fa 2 2 (.t 1)⟩,
 ⟨(some 16), (some (14, false)), false, .ld none (.t 15)⟩,
 ⟨(some 17), (some (14, false)), true, .call 96 [(.t 16)]⟩,
 ⟨(some 18), (some (14, false)), false, .un .not (.t 17)⟩,
 ⟨(some 19), none, false, .pick (.t 14) (.k (.d (.bool true))) (.t 18)⟩,
 ⟨(some 20), none, false, .mov (.t 19)⟩,
 ⟨(some 21), (some (20, false)), false, .fa 3 3 (.t 1)⟩,
 ⟨(some 22), (some (20, false)), false, .ld none (.t 21)⟩,
 ⟨(some 23), (some (20, false)), false, .len false (.t 22)⟩,
 ⟨(some 24), (some (20, false)), false, .bin .gtr (.t 23) (.k (.d (.int .i64 6)))⟩,
 ⟨(some 25), none, false, .pick (.t 20) (.k (.d (.bool true))) (.t 24)⟩,
 ⟨(some 26), none, false, .mov (.t 25)⟩,
 ⟨(some 27), (some (26, false)), false, .fa 3 3 (.t 1)⟩,
 ⟨(some 28), (some (26, false)), false, .ld none (.t 27)⟩,
 ⟨(some 29), (some (26, false)), true, .call 135 [(.t 28), (.k (.d (.int .i64 1))), (.k (.d (.int .i64 50)))]⟩,
 ⟨(some 30), (some (26, false)), false, .un .not (.t 29)⟩,
 ⟨(some 31), none, false, .pick (.t 26) (.k (.d (.bool true))) (.t 30)⟩,
 ⟨(some 32), none, false, .mov (.t 31)⟩,
 ⟨(some 33), (some (32, false)), false, .fa 4 4 (.t 1)⟩,
 ⟨(some 34), (some (32, false)), false, .ld none (.t 33)⟩,
 ⟨(some 35), (some (32, false)), true, .call 135 [(.t 34), (.k (.d (.int .i64 1))), (.k (.d (.int .i64 50)))]⟩,
 ⟨(some 36), (some (32, false)), false, .un .not (.t 35)⟩,
 ⟨(some 37), none, false, .pick (.t 32) (.k (.d (.bool true))) (.t 36)⟩,
 ⟨(some 38), none, false, .mov (.t 37)⟩,
 ⟨(some 39), (some (38, false)), false, .fa 5 5 (.t 1)⟩,
 ⟨(some 40), (some (38, false)), false, .ld none (.t 39)⟩,
 ⟨(some 41), (some (38, false)), true, .call 131 [(.t 40), (.k (.d (.int .i64 0))), (.k (.d (.int .i64 4)))]⟩,
 ⟨(some 42), (some (38, false)), false, .un .not (.t 41)⟩,
 ⟨(some 43), none, false, .pick (.t 38) (.k (.d (.bool true))) (.t 42)⟩])
 (.cond (.t 43)
 (.seq
 (.reg false [2] [⟨(some 2), none, false, .mov (.k (.d (.bool false)))⟩])
 .ret)
 .skip))
 (.seq
 (.seq
 (.reg false [1, 3] [⟨(some 3), none, false, .mov (.k (.d (.int .i64 0)))⟩])
 (.block 0
 (.loop
 (.seq
 (.seq
 (.reg false [1, 3, 48] [⟨(some 44), none, false, .mov (.t 3)⟩,
 ⟨(some 45), none, false, .fa 4 4 (.t 1)⟩,
 ⟨(some 46), none, false, .ld none (.t 45)⟩,
 ⟨(some 47), none, false, .len false (.t 46)⟩,
 ⟨(some 48), none, false, .bin .lss (.t 44) (.t 47)⟩])
 (.cond (.t 48)
 .skip
 (.exit 0)))
 (.seq
 (.block 1
 (.seq
 (.reg true [1, 3, 59] [⟨(some 51), none, false, .fa 3 3 (.t 1)⟩,
 ⟨(some 52), none, false, .ld none (.t 51)⟩,
 ⟨(some 53), none, false, .fa 4 4 (.t 1)⟩,
 ⟨(some 54), none, false, .ld none (.t 53)⟩,
 ⟨(some 55), none, false, .mov (.t 3)⟩,
 ⟨(some 56), none, false, .ia 1 (.t 54) (.t 55)⟩,
 ⟨(some 57), none, false, .ld none (.t 56)⟩,
 ⟨(some 58), none, false, .callP 64 [(.t 52), (.t 57)]⟩,
 ⟨(some 59), none, false, .un .not (.t 58)⟩])
 (.cond (.t 59)
 (.seq
 (.reg false [2] [⟨(some 2), none, false, .mov (.k (.d (.bool false)))⟩])
 .ret)
 .skip)))
 (.reg false [1, 3] [⟨(some 49), none, false, .mov (.t 3)⟩,
 ⟨(some 50), none, false, .bin .add (.t 49) (.k (.d (.int .i64 1)))⟩,
 ⟨(some 3), none, false, .mov (.t 50)⟩]))))))
 (.seq
 (.reg false [2] [⟨(some 60), none, false, .fa 5 5 (.t 1)⟩,
 ⟨(some 61), none, false, .ld none (.t 60)⟩,
 ⟨(some 62), none, false, .bin .eql (.t 61) (.k (.d (.int .i64 0)))⟩,
 ⟨(some 63), none, false, .mov (.t 62)⟩,
 ⟨(some 64), (some (63, false)), false, .fa 5 5 (.t 1)⟩,
 ⟨(some 65), (some (63, false)), false, .ld none (.t 64)⟩,
 ⟨(some 66), (some (63, false)), false, .bin .eql (.t 65) (.k (.d (.int .i64 4)))⟩,
 ⟨(some 67), none, false, .pick (.t 63) (.k (.d (.bool true))) (.t 66)⟩,
 ⟨(some 68), none, false, .fa 4 4 (.t 1)⟩,
 ⟨(some 69), none, false, .ld none (.t 68)⟩,
 ⟨(some 70), none, false, .len false (.t 69)⟩,
 ⟨(some 71), none, false, .fa 3 3 (.t 1)⟩,
 ⟨(some 72), none, false, .ld none (.t 71)⟩,
 ⟨(some 73), none, false, .len false (.t 72)⟩,
 ⟨(some 74), none, false, .bin .lss (.t 70) (.t 73)⟩,
 ⟨(some 75), none, false, .bb .eql (.t 67) (.t 74)⟩,
 ⟨(some 2), none, false, .mov (.t 75)⟩])
 .ret))))
theorem c116 : (Go.Proofs.Try.f116).body.bind (comp prog.P (1, (Go.Proofs.Try.f116).ntmps) lv116) = some m116 := by kernel_rfl
theorem r116 : resOK prog.P (Go.Proofs.Try.f116).results.toList = true := by kernel_rfl

/-- slices.IndexFunc[[]impl.Appeal,impl.Appeal] -/
def lv119 : List (Nat × List Nat) := [(0, [0, 1]), (1, [0, 1, 7, 8]), (2, [0, 1, 7, 8, 9]), (3, [0, 1, 5, 7, 8]), (4, [0, 1, 5, 7, 8, 16]), (5, [4]), (6, [0, 1, 7, 8]), (7, [4])]
def m119 : MC :=
  (.seq
 (.reg false [0, 1] [⟨(some 4), none, false, .mov (.k (.d (.int .i64 0)))⟩])
 (.seq
 (.seq
 (.reg false [0, 1, 7, 8] [⟨(some 6), none, false, .mov (.t 0)⟩,
 ⟨(some 7), none, false, .len false (.t 6)⟩,
 ⟨(some 8), none, false, .mov (.k (.d (.int .i64 0)))⟩])
 (.block 0
 (.loop
 (.seq
 (.reg false [0, 1, 7, 8, 9] [⟨(some 9), none, false, .bin .lss (.t 8) (.t 7)⟩])
 (.seq
 (.cond (.t 9)
 .skip
 (.exit 0))
 (.seq
 (.block 1
 (.seq
 (.reg false [0, 1, 5, 7, 8] [⟨(some 10), none, false, .mov (.t 8)⟩,
 ⟨(some 5), none, false, .mov (.t 10)⟩])
 (.seq
 (.reg false [0, 1, 5, 7, 8, 16] [⟨(some 11), none, false, .mov (.t 1)⟩,
 ⟨(some 12), none, false, .mov (.t 0)⟩,
 ⟨(some 13), none, false, .mov (.t 5)⟩,
 ⟨(some 14), none, false, .ia 6 (.t 12) (.t 13)⟩,
 ⟨(some 15), none, false, .ld (some 6) (.t 14)⟩,
 ⟨(some 16), none, true, .callW (.t 11) [(.t 15)]⟩])
 (.cond (.t 16)
 (.seq
 (.reg false [4] [⟨(some 17), none, false, .mov (.t 5)⟩,
 ⟨(some 4), none, false, .mov (.t 17)⟩])
 .ret)
 .skip))))
 (.reg false [0, 1, 7, 8] [⟨(some 18), none, false, .bin .add (.t 8) (.k (.d (.int .i64 1)))⟩,
 ⟨(some 8), none, false, .mov (.t 18)⟩])))))))
 (.seq
 (.reg false [4] [⟨(some 4), none, false, .mov (.k (.d (.int .i64 (-1))))⟩])
 .ret)))
theorem c119 : (Go.Proofs.Try.f119).body.bind (comp prog.P (2, (Go.Proofs.Try.f119).ntmps) lv119) = some m119 := by kernel_rfl
theorem r119 : resOK prog.P (Go.Proofs.Try.f119).results.toList = true := by kernel_rfl

/-- impl.appealAt$1 -/
def lv120 : List (Nat × List Nat) := [(0, [1, 2]), (1, [3])]
def m120 : MC :=
  (.seq
 (.reg false [1, 2] [⟨(some 2), none, true, .box (.t 0)⟩,
 ⟨(some 3), none, false, .mov (.k (.d (.bool false)))⟩])
 (.seq
 (.reg false [3] [⟨(some 4), none, false, .fa 0 0 (.t 2)⟩,
 ⟨(some 5), none, false, .ld none (.t 4)⟩,
 ⟨(some 6), none, false, .ld none (.t 1)⟩,
 ⟨(some 7), none, false, .bin .eql (.t 5) (.t 6)⟩,
 ⟨(some 3), none, false, .mov (.t 7)⟩])
 .ret))
theorem c120 : (Go.Proofs.Try.f120).body.bind (comp prog.P (2, (Go.Proofs.Try.f120).ntmps) lv120) = some m120 := by kernel_rfl
theorem r120 : resOK prog.P (Go.Proofs.Try.f120).results.toList = true := by kernel_rfl
theorem en120 : enterOK prog.P 120 = true := by kernel_rfl

/-- slices.IndexFunc[[]int,int] -/
def lv121 : List (Nat × List Nat) := [(0, [0, 1]), (1, [0, 1, 7, 8]), (2, [0, 1, 7, 8, 9]), (3, [0, 1, 5, 7, 8]), (4, [0, 1, 5, 7, 8, 16]), (5, [4]), (6, [0, 1, 7, 8]), (7, [4])]
def m121 : MC :=
  (.seq
 (.reg false [0, 1] [⟨(some 4), none, false, .mov (.k (.d (.int .i64 0)))⟩])
 (.seq
 (.seq
 (.reg false [0, 1, 7, 8] [⟨(some 6), none, false, .mov (.t 0)⟩,
 ⟨(some 7), none, false, .len false (.t 6)⟩,
 ⟨(some 8), none, false, .mov (.k (.d (.int .i64 0)))⟩])
 (.block 0
 (.loop
 (.seq
 (.reg false [0, 1, 7, 8, 9] [⟨(some 9), none, false, .bin .lss (.t 8) (.t 7)⟩])
 (.seq
 (.cond (.t 9)
 .skip
 (.exit 0))
 (.seq
 (.block 1
 (.seq
 (.reg false [0, 1, 5, 7, 8] [⟨(some 10), none, false, .mov (.t 8)⟩,
 ⟨(some 5), none, false, .mov (.t 10)⟩])
 (.seq
 (.reg false [0, 1, 5, 7, 8, 16] [⟨(some 11), none, false, .mov (.t 1)⟩,
 ⟨(some 12), none, false, .mov (.t 0)⟩,
 ⟨(some 13), none, false, .mov (.t 5)⟩,
 ⟨(some 14), none, false, .ia 1 (.t 12) (.t 13)⟩,
 ⟨(some 15), none, false, .ld none (.t 14)⟩,
 ⟨(some 16), none, true, .callW (.t 11) [(.t 15)]⟩])
 (.cond (.t 16)
 (.seq
 (.reg false [4] [⟨(some 17), none, false, .mov (.t 5)⟩,
 ⟨(some 4), none, false, .mov (.t 17)⟩])
 .ret)
 .skip))))
 (.reg false [0, 1, 7, 8] [⟨(some 18), none, false, .bin .add (.t 8) (.k (.d (.int .i64 1)))⟩,
 ⟨(some 8), none, false, .mov (.t 18)⟩])))))))
 (.seq
 (.reg false [4] [⟨(some 4), none, false, .mov (.k (.d (.int .i64 (-1))))⟩])
 .ret)))
theorem c121 : (Go.Proofs.Try.f121).body.bind (comp prog.P (2, (Go.Proofs.Try.f121).ntmps) lv121) = some m121 := by kernel_rfl
theorem r121 : resOK prog.P (Go.Proofs.Try.f121).results.toList = true := by kernel_rfl

/-- impl.gcd -/
def lv127 : List (Nat × List Nat) := [(0, [0, 1]), (1, [0, 1]), (2, [0, 1, 10]), (3, [0, 1]), (4, [4])]
def m127 : MC :=
  (.seq
 (.reg false [0, 1] [⟨(some 4), none, false, .mov (.k (.d (.int .i64 0)))⟩])
 (.seq
 (.reg false [0, 1] [⟨(some 5), none, false, .mov (.t 0)⟩,
 ⟨(some 6), none, true, .call 137 [(.t 5)]⟩,
 ⟨(some 7), none, false, .mov (.t 1)⟩,
 ⟨(some 8), none, true, .call 137 [(.t 7)]⟩,
 ⟨(some 0), none, false, .mov (.t 6)⟩,
 ⟨(some 1), none, false, .mov (.t 8)⟩])
 (.seq
 (.block 0
 (.loop
 (.seq
 (.seq
 (.reg false [0, 1, 10] [⟨(some 9), none, false, .mov (.t 1)⟩,
 ⟨(some 10), none, false, .bin .neq (.t 9) (.k (.d (.int .i64 0)))⟩])
 (.cond (.t 10)
 .skip
 (.exit 0)))
 (.block 1
 (.reg true [0, 1] [⟨(some 11), none, false, .mov (.t 1)⟩,
 ⟨(some 12), none, false, .mov (.t 0)⟩,
 ⟨(some 13), none, false, .mov (.t 1)⟩,
 ⟨(some 14), none, false, .bin .rem (.t 12) (.t 13)⟩,
 ⟨(some 0), none, false, .mov (.t 11)⟩,
 ⟨(some 1), none, false, .mov (.t 14)⟩])))))
 (.seq
 (.reg false [4] [⟨(some 15), none, false, .mov (.t 0)⟩,
 ⟨(some 4), none, false, .mov (.t 15)⟩])
 .ret))))
theorem c127 : (Go.Proofs.Try.f127).body.bind (comp prog.P (0, (Go.Proofs.Try.f127).ntmps) lv127) = some m127 := by kernel_rfl
theorem r127 : resOK prog.P (Go.Proofs.Try.f127).results.toList = true := by kernel_rfl

/-- spec.l1Cur).next -/
def lv128 : List (Nat × List Nat) := [(0, [0]), (1, [0, 3]), (2, [0, 3, 13]), (3, [0, 3]), (4, [0, 3]), (5, [0, 3]), (6, [0, 3, 53]), (7, [0, 2]), (8, [0, 2])]
def m128 : MC :=
  (.seq
 (.reg false [0] [⟨(some 2), none, false, .mov (.k (.d (.int .i64 0)))⟩])
 (.seq
 (.reg false [0, 3] [⟨(some 3), none, false, .mov (.k (.d (.int .i64 0)))⟩])
 (.seq
 (.seq
 (.reg true [0, 3, 13] [⟨(some 4), none, false, .mov (.t 0)⟩,
 ⟨(some 5), none, false, .nck (.t 4)⟩,
 ⟨(some 6), none, false, .fa 1 1 (.t 5)⟩,
 ⟨(some 7), none, false, .ld none (.t 6)⟩,
 ⟨(some 8), none, false, .mov (.t 0)⟩,
 ⟨(some 9), none, false, .nck (.t 8)⟩,
 ⟨(some 10), none, false, .fa 0 0 (.t 9)⟩,
 ⟨(some 11), none, false, .ld none (.t 10)⟩,
 ⟨(some 12), none, false, .len false (.t 11)⟩,
 ⟨(some 13), none, false, .bin .lss (.t 7) (.t 12)⟩])
 (.cond (.t 13)
 (.reg true [0, 3] [⟨(some 14), none, false, .mov (.t 0)⟩,
 ⟨(some 15), none, false, .nck (.t 14)⟩,
 ⟨(some 16), none, false, .fa 0 0 (.t 15)⟩,
 ⟨(some 17), none, false, .ld none (.t 16)⟩,
 ⟨(some 18), none, false, .mov (.t 0)⟩,
 ⟨(some 19), none, false, .nck (.t 18)⟩,
 ⟨(some 20), none, false, .fa 1 1 (.t 19)⟩,
 ⟨(some 21), none, false, .ld none (.t 20)⟩,
 ⟨(some 22), none, false, .ia 1 (.t 17) (.t 21)⟩,
 ⟨(some 23), none, false, .ld none (.t 22)⟩,
 ⟨(some 24), none, false, .conv .i64 (.t 23)⟩,
 ⟨(some 3), none, false, .mov (.t 24)⟩])
 .skip))
 (.seq
 (.reg false [0, 3] [⟨(some 25), none, false, .mov (.t 0)⟩,
 ⟨(some 26), none, false, .nck (.t 25)⟩,
 ⟨(some 27), none, false, .fa 1 1 (.t 26)⟩,
 ⟨(some 28), none, false, .ld none (.t 27)⟩,
 ⟨(some 29), none, false, .bin .add (.t 28) (.k (.d (.int .i64 1)))⟩,
 ⟨(some 30), none, false, .nck (.t 25)⟩,
 ⟨(some 31), none, false, .fa 1 1 (.t 30)⟩,
 ⟨none, none, true, .st 1 (.t 31) (.t 29)⟩])
 (.seq
 (.reg false [0, 3] [⟨(some 32), none, false, .mov (.t 0)⟩,
 ⟨(some 33), none, false, .mov (.t 0)⟩,
 ⟨(some 34), none, false, .nck (.t 33)⟩,
 ⟨(some 35), none, false, .fa 2 2 (.t 34)⟩,
 ⟨(some 36), none, false, .ld none (.t 35)⟩,
 ⟨(some 37), none, false, .bin .mul (.t 36) (.k (.d (.int .u64 6364136223846793005)))⟩,
 ⟨(some 38), none, false, .mov (.t 3)⟩,
 ⟨(some 39), none, false, .conv .u64 (.t 38)⟩,
 ⟨(some 40), none, false, .bin .add (.t 37) (.t 39)⟩,
 ⟨(some 41), none, false, .bin .add (.t 40) (.k (.d (.int .u64 103535)))⟩,
 ⟨(some 42), none, false, .nck (.t 32)⟩,
 ⟨(some 43), none, false, .fa 2 2 (.t 42)⟩,
 ⟨none, none, true, .st 1 (.t 43) (.t 41)⟩])
 (.seq
 (.seq
 (.reg true [0, 3, 53] [⟨(some 44), none, false, .mov (.t 0)⟩,
 ⟨(some 45), none, false, .nck (.t 44)⟩,
 ⟨(some 46), none, false, .fa 1 1 (.t 45)⟩,
 ⟨(some 47), none, false, .ld none (.t 46)⟩,
 ⟨(some 48), none, false, .mov (.t 0)⟩,
 ⟨(some 49), none, false, .nck (.t 48)⟩,
 ⟨(some 50), none, false, .fa 0 0 (.t 49)⟩,
 ⟨(some 51), none, false, .ld none (.t 50)⟩,
 ⟨(some 52), none, false, .len false (.t 51)⟩,
 ⟨(some 53), none, false, .bin .leq (.t 47) (.t 52)⟩])
 (.cond (.t 53)
 (.seq
 (.reg false [0, 2] [⟨(some 54), none, false, .mov (.t 3)⟩,
 ⟨(some 2), none, false, .mov (.t 54)⟩])
 .ret)
 .skip))
 (.seq
 (.reg false [0, 2] [⟨(some 55), none, false, .mov (.t 0)⟩,
 ⟨(some 56), none, false, .nck (.t 55)⟩,
 ⟨(some 57), none, false, .fa 2 2 (.t 56)⟩,
 ⟨(some 58), none, false, .ld none (.t 57)⟩,
 ⟨(some 59), none, false, .shr (.t 58) (.k (.d (.int .u64 40)))⟩,
 ⟨(some 60), none, false, .bin .and (.t 59) (.k (.d (.int .u64 255)))⟩,
 ⟨(some 61), none, false, .conv .i64 (.t 60)⟩,
 ⟨(some 2), none, false, .mov (.t 61)⟩])
 .ret)))))))
theorem c128 : (Go.Proofs.Try.f128).body.bind (comp prog.P (1, (Go.Proofs.Try.f128).ntmps) lv128) = some m128 := by kernel_rfl
theorem r128 : resOK prog.P (Go.Proofs.Try.f128).results.toList = true := by kernel_rfl

/-- slices.stableCmpFunc[impl.Appeal] -/
def lv129 : List (Nat × List Nat) := [(0, [0, 1, 2, 6]), (1, [0, 1, 2, 6, 7, 8]), (2, [0, 1, 2, 6, 7, 8, 13]), (3, [0, 1, 2, 6, 8]), (4, [0, 1, 2, 6, 7, 8]), (5, [0, 1, 2, 6, 7, 8]), (6, [0, 1, 2, 6]), (7, [0, 1, 2, 6, 30]), (8, [0, 1, 2, 6, 7, 8]), (9, [0, 1, 2, 6, 7, 8, 35]), (10, [0, 1, 2, 6, 8]), (11, [0, 1, 2, 6, 7, 8]), (12, [0, 1, 2, 6, 7, 8]), (13, [0, 1, 2, 6, 7, 9]), (14, [0, 1, 2, 6, 7, 9, 54]), (15, [0, 1, 2, 6]), (16, [0, 1, 2, 6])]
def m129 : MC :=
  (.seq
 (.reg false [0, 1, 2, 6] [⟨(some 6), none, false, .mov (.k (.d (.int .i64 20)))⟩])
 (.seq
 (.reg false [0, 1, 2, 6, 7, 8] [⟨(some 10), none, false, .mov (.t 6)⟩,
 ⟨(some 7), none, false, .mov (.k (.d (.int .i64 0)))⟩,
 ⟨(some 8), none, false, .mov (.t 10)⟩])
 (.seq
 (.block 0
 (.loop
 (.seq
 (.seq
 (.reg false [0, 1, 2, 6, 7, 8, 13] [⟨(some 11), none, false, .mov (.t 8)⟩,
 ⟨(some 12), none, false, .mov (.t 1)⟩,
 ⟨(some 13), none, false, .bin .leq (.t 11) (.t 12)⟩])
 (.cond (.t 13)
 .skip
 (.exit 0)))
 (.block 1
 (.seq
 (.reg false [0, 1, 2, 6, 8] [⟨(some 14), none, false, .mov (.t 0)⟩,
 ⟨(some 15), none, false, .mov (.t 7)⟩,
 ⟨(some 16), none, false, .mov (.t 8)⟩,
 ⟨(some 17), none, false, .mov (.t 2)⟩,
 ⟨(some 18), none, true, .call 138 [(.t 14), (.t 15), (.t 16), (.t 17)]⟩])
 (.seq
 (.reg false [0, 1, 2, 6, 7, 8] [⟨(some 19), none, false, .mov (.t 8)⟩,
 ⟨(some 7), none, false, .mov (.t 19)⟩])
 (.reg false [0, 1, 2, 6, 7, 8] [⟨(some 20), none, false, .mov (.t 8)⟩,
 ⟨(some 21), none, false, .mov (.t 6)⟩,
 ⟨(some 22), none, false, .bin .add (.t 20) (.t 21)⟩,
 ⟨(some 8), none, false, .mov (.t 22)⟩])))))))
 (.seq
 (.reg false [0, 1, 2, 6] [⟨(some 23), none, false, .mov (.t 0)⟩,
 ⟨(some 24), none, false, .mov (.t 7)⟩,
 ⟨(some 25), none, false, .mov (.t 1)⟩,
 ⟨(some 26), none, false, .mov (.t 2)⟩,
 ⟨(some 27), none, true, .call 138 [(.t 23), (.t 24), (.t 25), (.t 26)]⟩])
 (.block 2
 (.loop
 (.seq
 (.seq
 (.reg false [0, 1, 2, 6, 30] [⟨(some 28), none, false, .mov (.t 6)⟩,
 ⟨(some 29), none, false, .mov (.t 1)⟩,
 ⟨(some 30), none, false, .bin .lss (.t 28) (.t 29)⟩])
 (.cond (.t 30)
 .skip
 (.exit 2)))
 (.block 3
 (.seq
 (.reg false [0, 1, 2, 6, 7, 8] [⟨(some 31), none, false, .mov (.t 6)⟩,
 ⟨(some 32), none, false, .bin .mul (.k (.d (.int .i64 2))) (.t 31)⟩,
 ⟨(some 7), none, false, .mov (.k (.d (.int .i64 0)))⟩,
 ⟨(some 8), none, false, .mov (.t 32)⟩])
 (.seq
 (.block 4
 (.loop
 (.seq
 (.seq
 (.reg false [0, 1, 2, 6, 7, 8, 35] [⟨(some 33), none, false, .mov (.t 8)⟩,
 ⟨(some 34), none, false, .mov (.t 1)⟩,
 ⟨(some 35), none, false, .bin .leq (.t 33) (.t 34)⟩])
 (.cond (.t 35)
 .skip
 (.exit 4)))
 (.block 5
 (.seq
 (.reg false [0, 1, 2, 6, 8] [⟨(some 36), none, false, .mov (.t 0)⟩,
 ⟨(some 37), none, false, .mov (.t 7)⟩,
 ⟨(some 38), none, false, .mov (.t 7)⟩,
 ⟨(some 39), none, false, .mov (.t 6)⟩,
 ⟨(some 40), none, false, .bin .add (.t 38) (.t 39)⟩,
 ⟨(some 41), none, false, .mov (.t 8)⟩,
 ⟨(some 42), none, false, .mov (.t 2)⟩,
 ⟨(some 43), none, true, .call 139 [(.t 36), (.t 37), (.t 40), (.t 41), (.t 42)]⟩])
 (.seq
 (.reg false [0, 1, 2, 6, 7, 8] [⟨(some 44), none, false, .mov (.t 8)⟩,
 ⟨(some 7), none, false, .mov (.t 44)⟩])
 (.reg false [0, 1, 2, 6, 7, 8] [⟨(some 45), none, false, .mov (.t 8)⟩,
 ⟨(some 46), none, false, .mov (.t 6)⟩,
 ⟨(some 47), none, false, .bin .mul (.k (.d (.int .i64 2))) (.t 46)⟩,
 ⟨(some 48), none, false, .bin .add (.t 45) (.t 47)⟩,
 ⟨(some 8), none, false, .mov (.t 48)⟩])))))))
 (.seq
 (.seq
 (.reg false [0, 1, 2, 6, 7, 9] [⟨(some 49), none, false, .mov (.t 7)⟩,
 ⟨(some 50), none, false, .mov (.t 6)⟩,
 ⟨(some 51), none, false, .bin .add (.t 49) (.t 50)⟩,
 ⟨(some 9), none, false, .mov (.t 51)⟩])
 (.seq
 (.reg false [0, 1, 2, 6, 7, 9, 54] [⟨(some 52), none, false, .mov (.t 9)⟩,
 ⟨(some 53), none, false, .mov (.t 1)⟩,
 ⟨(some 54), none, false, .bin .lss (.t 52) (.t 53)⟩])
 (.cond (.t 54)
 (.reg false [0, 1, 2, 6] [⟨(some 55), none, false, .mov (.t 0)⟩,
 ⟨(some 56), none, false, .mov (.t 7)⟩,
 ⟨(some 57), none, false, .mov (.t 9)⟩,
 ⟨(some 58), none, false, .mov (.t 1)⟩,
 ⟨(some 59), none, false, .mov (.t 2)⟩,
 ⟨(some 60), none, true, .call 139 [(.t 55), (.t 56), (.t 57), (.t 58), (.t 59)]⟩])
 .skip)))
 (.reg false [0, 1, 2, 6] [⟨(some 61), none, false, .mov (.t 6)⟩,
 ⟨(some 62), none, false, .bin .mul (.t 61) (.k (.d (.int .i64 2)))⟩,
 ⟨(some 6), none, false, .mov (.t 62)⟩]))))))))))))
theorem c129 : (Go.Proofs.Try.f129).body.bind (comp prog.P (3, (Go.Proofs.Try.f129).ntmps) lv129) = some m129 := by kernel_rfl
theorem r129 : resOK prog.P (Go.Proofs.Try.f129).results.toList = true := by kernel_rfl

/-- cmp.isNaN[int] -/
def lv130 : List (Nat × List Nat) := [(0, [0]), (1, [2])]
def m130 : MC :=
  (.seq
 (.reg false [0] [⟨(some 2), none, false, .mov (.k (.d (.bool false)))⟩])
 (.seq
 (.reg false [2] [⟨(some 3), none, false, .mov (.t 0)⟩,
 ⟨(some 4), none, false, .mov (.t 0)⟩,
 ⟨(some 5), none, false, .bin .neq (.t 3) (.t 4)⟩,
 ⟨(some 2), none, false, .mov (.t 5)⟩])
 .ret))
theorem c130 : (Go.Proofs.Try.f130).body.bind (comp prog.P (1, (Go.Proofs.Try.f130).ntmps) lv130) = some m130 := by kernel_rfl
theorem r130 : resOK prog.P (Go.Proofs.Try.f130).results.toList = true := by kernel_rfl

/-- spec.l1In -/
def lv131 : List (Nat × List Nat) := [(0, [0, 1, 2]), (1, [6])]
def m131 : MC :=
  (.seq
 (.reg false [0, 1, 2] [⟨(some 6), none, false, .mov (.k (.d (.bool false)))⟩])
 (.seq
 (.reg false [6] [⟨(some 7), none, false, .mov (.t 0)⟩,
 ⟨(some 8), none, false, .mov (.t 1)⟩,
 ⟨(some 9), none, false, .bin .geq (.t 7) (.t 8)⟩,
 ⟨(some 10), none, false, .mov (.t 9)⟩,
 ⟨(some 11), (some (10, true)), false, .mov (.t 0)⟩,
 ⟨(some 12), (some (10, true)), false, .mov (.t 2)⟩,
 ⟨(some 13), (some (10, true)), false, .bin .leq (.t 11) (.t 12)⟩,
 ⟨(some 14), none, false, .pick (.t 10) (.t 13) (.k (.d (.bool false)))⟩,
 ⟨(some 6), none, false, .mov (.t 14)⟩])
 .ret))
theorem c131 : (Go.Proofs.Try.f131).body.bind (comp prog.P (3, (Go.Proofs.Try.f131).ntmps) lv131) = some m131 := by kernel_rfl
theorem r131 : resOK prog.P (Go.Proofs.Try.f131).results.toList = true := by kernel_rfl

/-- slices.Clone[[]impl.Appeal,impl.Appeal] -/
def lv132 : List (Nat × List Nat) := [(0, [0]), (1, [0, 4]), (2, [2]), (3, [2])]
def m132 : MC :=
  (.seq
 (.reg false [0] [⟨(some 2), none, false, .mov (.k .nil)⟩])
 (.seq
 (.seq
 (.reg false [0, 4] [⟨(some 3), none, false, .mov (.t 0)⟩,
 ⟨(some 4), none, true, .snil false (.t 3)⟩])
 (.cond (.t 4)
 (.seq
 (.reg false [2] [⟨(some 2), none, false, .mov (.k .nil)⟩])
 .ret)
 .skip))
 (.seq
 (.reg false [2] [⟨(some 5), none, true, .bs 6 0 (.st (.cons (.int .i64 0) (.cons (.int .i64 0) (.cons (.int .i64 0) (.cons (.sl true 1 .nil) (.cons (.sl true 1 .nil) (.cons (.int .i64 0) .nil))))))) []⟩,
 ⟨(some 6), none, false, .mov (.t 0)⟩,
 ⟨(some 7), none, true, .app 6 80 (.t 5) (.t 6)⟩,
 ⟨(some 2), none, false, .mov (.t 7)⟩])
 .ret)))
theorem c132 : (Go.Proofs.Try.f132).body.bind (comp prog.P (1, (Go.Proofs.Try.f132).ntmps) lv132) = some m132 := by kernel_rfl
theorem r132 : resOK prog.P (Go.Proofs.Try.f132).results.toList = true := by kernel_rfl

end Go.Pe.Try
