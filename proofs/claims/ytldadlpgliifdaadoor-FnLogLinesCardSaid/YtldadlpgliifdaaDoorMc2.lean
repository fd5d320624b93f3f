/-
The compact code of the functions that the law reaches, printed by gen.py, each with the proof that the machine's code is compiled to it.
-/
import Derived.Test.YtldadlpgliifdaaDoorMc1
import Derived.Test.YtldadlpgliifdaaDoorProg
import Derived.KernelRfl
set_option maxRecDepth 100000
namespace Go.Pe.Tryd
open Go.Pe

/-- spec.l1Cur).one -/
def lv56 : List (Nat × List Nat) := [(0, [0, 1]), (1, [0, 4])]
def m56 : MC :=
  (.seq
 (.reg false [0, 1] [⟨(some 4), none, false, .mov (.k (.d (.bool false)))⟩])
 (.seq
 (.reg false [0, 4] [⟨(some 5), none, false, .mov (.t 0)⟩,
 ⟨(some 6), none, false, .mov (.t 1)⟩,
 ⟨(some 7), none, true, .call 54 [(.t 5), (.t 6)]⟩,
 ⟨(some 8), none, false, .bin .eql (.t 7) (.k (.d (.int .i64 0)))⟩,
 ⟨(some 4), none, false, .mov (.t 8)⟩])
 .ret))
theorem c56 : (Go.Proofs.Tryd.f56).body.bind (comp prog.P (2, (Go.Proofs.Tryd.f56).ntmps) lv56) = some m56 := by kernel_rfl
theorem r56 : resOK prog.P (Go.Proofs.Tryd.f56).results.toList = true := by kernel_rfl

/-- impl.readRecords -/
def lv57 : List (Nat × List Nat) := [(0, [0]), (1, [0, 4]), (2, [0, 4, 5]), (3, [0, 4, 5, 22]), (4, [0, 4, 5, 6, 8]), (5, [0, 4, 5, 6, 32]), (6, [0, 4, 5, 6, 9]), (7, [0, 4, 5, 6, 12]), (8, [0, 4, 5, 6, 14, 15]), (9, [0, 4, 5, 6, 17]), (10, [0, 4, 5, 6, 17, 18, 19]), (11, [0, 4, 5, 6, 17, 67]), (12, [0, 4, 5, 6]), (13, [0, 4, 5]), (14, [2, 3])]
def m57 : MC :=
  (.seq
 (.reg false [0] [⟨(some 2), none, false, .mov (.k .nil)⟩,
 ⟨(some 3), none, false, .mov (.k (.d (.int .i64 0)))⟩])
 (.seq
 (.reg false [0, 4] [⟨(some 4), none, false, .mov (.k .nil)⟩])
 (.seq
 (.reg false [0, 4, 5] [⟨(some 5), none, false, .mov (.k (.d (.int .i64 0)))⟩])
 (.seq
 (.block 0
 (.loop
 (.seq
 (.seq
 (.reg false [0, 4, 5, 22] [⟨(some 20), none, false, .mov (.t 4)⟩,
 ⟨(some 21), none, false, .len false (.t 20)⟩,
 ⟨(some 22), none, false, .bin .lss (.t 21) (.k (.d (.int .i64 60)))⟩])
 (.cond (.t 22)
 .skip
 (.exit 0)))
 (.block 1
 (.seq
 (.reg false [0, 4, 5, 6, 8] [⟨(some 24), none, false, .mov (.t 0)⟩,
 ⟨(some 25), none, false, .mov (.t 5)⟩,
 ⟨(some 26), none, false, .sls (.t 24) (some (.t 25)) none⟩,
 ⟨(some 27), none, true, .call 71 [(.t 26), (.k (.d (.str [10])))]⟩,
 ⟨(some 23), none, false, .mov (.t 27)⟩,
 ⟨(some 28), none, false, .ext (.t 23) 0⟩,
 ⟨(some 29), none, false, .ext (.t 23) 1⟩,
 ⟨(some 30), none, false, .ext (.t 23) 2⟩,
 ⟨(some 6), none, false, .mov (.t 28)⟩,
 ⟨(some 7), none, false, .mov (.t 29)⟩,
 ⟨(some 8), none, false, .mov (.t 30)⟩])
 (.seq
 (.seq
 (.reg false [0, 4, 5, 6, 32] [⟨(some 31), none, false, .mov (.t 8)⟩,
 ⟨(some 32), none, false, .un .not (.t 31)⟩])
 (.cond (.t 32)
 (.exit 0)
 .skip))
 (.seq
 (.reg false [0, 4, 5, 6, 9] [⟨(some 34), none, false, .mov (.t 6)⟩,
 ⟨(some 35), none, true, .call 72 [(.t 34)]⟩,
 ⟨(some 33), none, false, .mov (.t 35)⟩,
 ⟨(some 36), none, false, .ext (.t 33) 0⟩,
 ⟨(some 37), none, false, .ext (.t 33) 1⟩,
 ⟨(some 9), none, false, .mov (.t 36)⟩,
 ⟨(some 10), none, false, .mov (.t 37)⟩])
 (.seq
 (.reg false [0, 4, 5, 6, 12] [⟨(some 39), none, false, .mov (.t 9)⟩,
 ⟨(some 40), none, true, .call 71 [(.t 39), (.k (.d (.str [32])))]⟩,
 ⟨(some 38), none, false, .mov (.t 40)⟩,
 ⟨(some 41), none, false, .ext (.t 38) 0⟩,
 ⟨(some 42), none, false, .ext (.t 38) 1⟩,
 ⟨(some 43), none, false, .ext (.t 38) 2⟩,
 ⟨(some 11), none, false, .mov (.t 41)⟩,
 ⟨(some 12), none, false, .mov (.t 42)⟩,
 ⟨(some 13), none, false, .mov (.t 43)⟩])
 (.seq
 (.reg false [0, 4, 5, 6, 14, 15] [⟨(some 45), none, false, .mov (.t 12)⟩,
 ⟨(some 46), none, true, .call 71 [(.t 45), (.k (.d (.str [64])))]⟩,
 ⟨(some 44), none, false, .mov (.t 46)⟩,
 ⟨(some 47), none, false, .ext (.t 44) 0⟩,
 ⟨(some 48), none, false, .ext (.t 44) 1⟩,
 ⟨(some 49), none, false, .ext (.t 44) 2⟩,
 ⟨(some 14), none, false, .mov (.t 47)⟩,
 ⟨(some 15), none, false, .mov (.t 48)⟩,
 ⟨(some 16), none, false, .mov (.t 49)⟩])
 (.seq
 (.reg false [0, 4, 5, 6, 17] [⟨(some 50), none, false, .mov (.t 14)⟩,
 ⟨(some 51), none, false, .mov (.t 15)⟩,
 ⟨(some 52), none, true, .bld (.cons (.str []) (.cons (.str []) .nil)) [(0, (.t 50)), (1, (.t 51))]⟩,
 ⟨(some 17), none, true, .alloc (.st (.cons (.str []) (.cons (.str []) .nil)))⟩,
 ⟨none, none, true, .st 2 (.t 17) (.t 52)⟩])
 (.seq
 (.seq
 (.reg false [0, 4, 5, 6, 17, 18, 19] [⟨(some 54), none, false, .mov (.t 4)⟩,
 ⟨(some 55), none, false, .len false (.t 54)⟩,
 ⟨(some 56), none, false, .ld (some 2) (.t 17)⟩,
 ⟨(some 57), none, true, .call 31 [(.t 55), (.t 56)]⟩,
 ⟨(some 53), none, false, .mov (.t 57)⟩,
 ⟨(some 58), none, false, .ext (.t 53) 0⟩,
 ⟨(some 59), none, false, .ext (.t 53) 1⟩,
 ⟨(some 18), none, false, .mov (.t 58)⟩,
 ⟨(some 19), none, false, .mov (.t 59)⟩])
 (.seq
 (.reg false [0, 4, 5, 6, 17, 67] [⟨(some 60), none, false, .mov (.t 19)⟩,
 ⟨(some 61), none, false, .un .not (.t 60)⟩,
 ⟨(some 62), none, false, .mov (.t 61)⟩,
 ⟨(some 63), (some (62, false)), false, .mov (.t 18)⟩,
 ⟨(some 64), (some (62, false)), false, .mov (.t 6)⟩,
 ⟨(some 65), (some (62, false)), false, .bin .add (.t 64) (.k (.d (.str [10])))⟩,
 ⟨(some 66), (some (62, false)), false, .bin .neq (.t 63) (.t 65)⟩,
 ⟨(some 67), none, false, .pick (.t 62) (.k (.d (.bool true))) (.t 66)⟩])
 (.cond (.t 67)
 (.exit 0)
 .skip)))
 (.seq
 (.reg false [0, 4, 5, 6] [⟨(some 68), none, false, .mov (.t 4)⟩,
 ⟨(some 69), none, false, .ld (some 2) (.t 17)⟩,
 ⟨(some 70), none, true, .bs 2 1 (.st (.cons (.str []) (.cons (.str []) .nil))) [(0, (.t 69))]⟩,
 ⟨(some 71), none, true, .app 2 32 (.t 68) (.t 70)⟩,
 ⟨(some 4), none, false, .mov (.t 71)⟩])
 (.reg false [0, 4, 5] [⟨(some 72), none, false, .mov (.t 5)⟩,
 ⟨(some 73), none, false, .mov (.t 6)⟩,
 ⟨(some 74), none, false, .len true (.t 73)⟩,
 ⟨(some 75), none, false, .bin .add (.t 74) (.k (.d (.int .i64 1)))⟩,
 ⟨(some 76), none, false, .bin .add (.t 72) (.t 75)⟩,
 ⟨(some 5), none, false, .mov (.t 76)⟩])))))))))))))
 (.seq
 (.reg false [2, 3] [⟨(some 77), none, false, .mov (.t 4)⟩,
 ⟨(some 78), none, false, .mov (.t 5)⟩,
 ⟨(some 2), none, false, .mov (.t 77)⟩,
 ⟨(some 3), none, false, .mov (.t 78)⟩])
 .ret)))))
theorem c57 : (Go.Proofs.Tryd.f57).body.bind (comp prog.P (1, (Go.Proofs.Tryd.f57).ntmps) lv57) = some m57 := by kernel_rfl
theorem r57 : resOK prog.P (Go.Proofs.Tryd.f57).results.toList = true := by kernel_rfl

/-- impl.isPlain -/
def lv59 : List (Nat × List Nat) := [(0, [0]), (1, [0, 5, 6]), (2, [0, 5, 6, 7]), (3, [0, 3, 5, 6]), (4, [0, 5, 6, 24]), (5, [2]), (6, [0, 5, 6]), (7, [2])]
def m59 : MC :=
  (.seq
 (.reg false [0] [⟨(some 2), none, false, .mov (.k (.d (.bool false)))⟩])
 (.seq
 (.seq
 (.reg false [0, 5, 6] [⟨(some 4), none, false, .mov (.t 0)⟩,
 ⟨(some 5), none, false, .len true (.t 4)⟩,
 ⟨(some 6), none, false, .mov (.k (.d (.int .i64 0)))⟩])
 (.block 0
 (.loop
 (.seq
 (.reg false [0, 5, 6, 7] [⟨(some 7), none, false, .bin .lss (.t 6) (.t 5)⟩])
 (.seq
 (.cond (.t 7)
 .skip
 (.exit 0))
 (.seq
 (.block 1
 (.seq
 (.reg false [0, 3, 5, 6] [⟨(some 8), none, false, .mov (.t 6)⟩,
 ⟨(some 3), none, false, .mov (.t 8)⟩])
 (.seq
 (.reg false [0, 5, 6, 24] [⟨(some 9), none, false, .mov (.t 0)⟩,
 ⟨(some 10), none, false, .mov (.t 3)⟩,
 ⟨(some 11), none, false, .ix (.t 9) (.t 10)⟩,
 ⟨(some 12), none, false, .bin .lss (.t 11) (.k (.d (.int .u8 32)))⟩,
 ⟨(some 13), none, false, .mov (.t 12)⟩,
 ⟨(some 14), (some (13, false)), false, .mov (.t 0)⟩,
 ⟨(some 15), (some (13, false)), false, .mov (.t 3)⟩,
 ⟨(some 16), (some (13, false)), false, .ix (.t 14) (.t 15)⟩,
 ⟨(some 17), (some (13, false)), false, .bin .gtr (.t 16) (.k (.d (.int .u8 126)))⟩,
 ⟨(some 18), none, false, .pick (.t 13) (.k (.d (.bool true))) (.t 17)⟩,
 ⟨(some 19), none, false, .mov (.t 18)⟩,
 ⟨(some 20), (some (19, false)), false, .mov (.t 0)⟩,
 ⟨(some 21), (some (19, false)), false, .mov (.t 3)⟩,
 ⟨(some 22), (some (19, false)), false, .ix (.t 20) (.t 21)⟩,
 ⟨(some 23), (some (19, false)), false, .bin .eql (.t 22) (.k (.d (.int .u8 35)))⟩,
 ⟨(some 24), none, false, .pick (.t 19) (.k (.d (.bool true))) (.t 23)⟩])
 (.cond (.t 24)
 (.seq
 (.reg false [2] [⟨(some 2), none, false, .mov (.k (.d (.bool false)))⟩])
 .ret)
 .skip))))
 (.reg false [0, 5, 6] [⟨(some 25), none, false, .bin .add (.t 6) (.k (.d (.int .i64 1)))⟩,
 ⟨(some 6), none, false, .mov (.t 25)⟩])))))))
 (.seq
 (.reg false [2] [⟨(some 2), none, false, .mov (.k (.d (.bool true)))⟩])
 .ret)))
theorem c59 : (Go.Proofs.Tryd.f59).body.bind (comp prog.P (1, (Go.Proofs.Tryd.f59).ntmps) lv59) = some m59 := by kernel_rfl
theorem r59 : resOK prog.P (Go.Proofs.Tryd.f59).results.toList = true := by kernel_rfl

/-- spec.l1Split -/
def lv61 : List (Nat × List Nat) := [(0, [0, 1]), (1, [0, 1, 5]), (2, [0, 1, 5, 6]), (3, [0, 1, 5, 6, 7]), (4, [0, 1, 5, 6, 7, 12]), (5, [0, 1, 5, 6, 7]), (6, [0, 1, 5, 6, 7, 19]), (7, [0, 1, 5, 7]), (8, [0, 1, 5, 6, 7]), (9, [4])]
def m61 : MC :=
  (.seq
 (.reg false [0, 1] [⟨(some 4), none, false, .mov (.k .nil)⟩])
 (.seq
 (.reg false [0, 1, 5] [⟨(some 8), none, true, .bs 1 0 (.str []) []⟩,
 ⟨(some 5), none, false, .mov (.t 8)⟩])
 (.seq
 (.reg false [0, 1, 5, 6] [⟨(some 6), none, false, .mov (.k (.d (.int .i64 0)))⟩])
 (.seq
 (.seq
 (.reg false [0, 1, 5, 6, 7] [⟨(some 7), none, false, .mov (.k (.d (.int .i64 0)))⟩])
 (.block 0
 (.loop
 (.seq
 (.seq
 (.reg false [0, 1, 5, 6, 7, 12] [⟨(some 9), none, false, .mov (.t 7)⟩,
 ⟨(some 10), none, false, .mov (.t 0)⟩,
 ⟨(some 11), none, false, .len true (.t 10)⟩,
 ⟨(some 12), none, false, .bin .lss (.t 9) (.t 11)⟩])
 (.cond (.t 12)
 .skip
 (.exit 0)))
 (.seq
 (.block 1
 (.seq
 (.reg false [0, 1, 5, 6, 7, 19] [⟨(some 15), none, false, .mov (.t 0)⟩,
 ⟨(some 16), none, false, .mov (.t 7)⟩,
 ⟨(some 17), none, false, .ix (.t 15) (.t 16)⟩,
 ⟨(some 18), none, false, .mov (.t 1)⟩,
 ⟨(some 19), none, false, .bin .eql (.t 17) (.t 18)⟩])
 (.cond (.t 19)
 (.seq
 (.reg false [0, 1, 5, 7] [⟨(some 20), none, false, .mov (.t 5)⟩,
 ⟨(some 21), none, false, .mov (.t 0)⟩,
 ⟨(some 22), none, false, .mov (.t 6)⟩,
 ⟨(some 23), none, false, .mov (.t 7)⟩,
 ⟨(some 24), none, false, .sls (.t 21) (some (.t 22)) (some (.t 23))⟩,
 ⟨(some 25), none, true, .bs 1 1 (.str []) [(0, (.t 24))]⟩,
 ⟨(some 26), none, true, .app 1 16 (.t 20) (.t 25)⟩,
 ⟨(some 5), none, false, .mov (.t 26)⟩])
 (.reg false [0, 1, 5, 6, 7] [⟨(some 27), none, false, .mov (.t 7)⟩,
 ⟨(some 28), none, false, .bin .add (.t 27) (.k (.d (.int .i64 1)))⟩,
 ⟨(some 6), none, false, .mov (.t 28)⟩]))
 .skip)))
 (.reg false [0, 1, 5, 6, 7] [⟨(some 13), none, false, .mov (.t 7)⟩,
 ⟨(some 14), none, false, .bin .add (.t 13) (.k (.d (.int .i64 1)))⟩,
 ⟨(some 7), none, false, .mov (.t 14)⟩]))))))
 (.seq
 (.reg false [4] [⟨(some 29), none, false, .mov (.t 5)⟩,
 ⟨(some 30), none, false, .mov (.t 0)⟩,
 ⟨(some 31), none, false, .mov (.t 6)⟩,
 ⟨(some 32), none, false, .sls (.t 30) (some (.t 31)) none⟩,
 ⟨(some 33), none, true, .bs 1 1 (.str []) [(0, (.t 32))]⟩,
 ⟨(some 34), none, true, .app 1 16 (.t 29) (.t 33)⟩,
 ⟨(some 4), none, false, .mov (.t 34)⟩])
 .ret)))))
theorem c61 : (Go.Proofs.Tryd.f61).body.bind (comp prog.P (2, (Go.Proofs.Tryd.f61).ntmps) lv61) = some m61 := by kernel_rfl
theorem r61 : resOK prog.P (Go.Proofs.Tryd.f61).results.toList = true := by kernel_rfl

/-- spec.l27Read -/
def lv62 : List (Nat × List Nat) := [(0, [0, 1, 4]), (1, [0, 1, 4, 6]), (2, [0, 1, 4, 6, 7]), (3, [0, 1, 4, 6, 7, 30]), (4, [4, 5]), (5, [0, 1, 4, 8]), (6, [0, 1, 4, 8, 9]), (7, [0, 1, 4, 8, 9, 44]), (8, [4, 5]), (9, [0, 1, 4, 10]), (10, [4, 5]), (1000010, [2, 11, 12, 1, 0, 2, 1, 2, 2, 1, 3, 1, 4, 1, 7, 1, 8, 2, 5, 2, 6, 1, 9, 1, 10, 2, 11, 2, 12, 0])]
def m62 : MC :=
  (.seq
 (.reg false [0, 1, 4] [⟨(some 4), none, true, .alloc (.st (.cons (.str []) (.cons (.str []) .nil)))⟩,
 ⟨(some 5), none, false, .mov (.k (.d (.bool false)))⟩])
 (.seq
 (.reg false [0, 1, 4, 6] [⟨(some 11), none, false, .mov (.t 1)⟩,
 ⟨(some 12), none, true, .call 66 [(.t 11)]⟩,
 ⟨(some 13), none, false, .bin .add (.t 12) (.k (.d (.str [32])))⟩,
 ⟨(some 6), none, false, .mov (.t 13)⟩])
 (.seq
 (.reg false [0, 1, 4, 6, 7] [⟨(some 14), none, false, .mov (.t 0)⟩,
 ⟨(some 15), none, true, .call 61 [(.t 14), (.k (.d (.int .u8 35)))]⟩,
 ⟨(some 16), none, false, .ia 1 (.t 15) (.k (.d (.int .i64 0)))⟩,
 ⟨(some 17), none, false, .ld none (.t 16)⟩,
 ⟨(some 7), none, false, .mov (.t 17)⟩])
 (.seq
 (.seq
 (.reg false [0, 1, 4, 6, 7, 30] [⟨(some 18), none, false, .mov (.t 7)⟩,
 ⟨(some 19), none, false, .len true (.t 18)⟩,
 ⟨(some 20), none, false, .mov (.t 6)⟩,
 ⟨(some 21), none, false, .len true (.t 20)⟩,
 ⟨(some 22), none, false, .bin .lss (.t 19) (.t 21)⟩,
 ⟨(some 23), none, false, .mov (.t 22)⟩,
 ⟨(some 24), (some (23, false)), false, .mov (.t 7)⟩,
 ⟨(some 25), (some (23, false)), false, .mov (.t 6)⟩,
 ⟨(some 26), (some (23, false)), false, .len true (.t 25)⟩,
 ⟨(some 27), (some (23, false)), false, .sls (.t 24) none (some (.t 26))⟩,
 ⟨(some 28), (some (23, false)), false, .mov (.t 6)⟩,
 ⟨(some 29), (some (23, false)), false, .bin .neq (.t 27) (.t 28)⟩,
 ⟨(some 30), none, false, .pick (.t 23) (.k (.d (.bool true))) (.t 29)⟩])
 (.cond (.t 30)
 (.seq
 (.reg false [4, 5] [⟨(some 31), none, true, .bld (.cons (.str []) (.cons (.str []) .nil)) []⟩,
 ⟨none, none, true, .st 2 (.t 4) (.t 31)⟩,
 ⟨(some 5), none, false, .mov (.k (.d (.bool false)))⟩])
 .ret)
 .skip))
 (.seq
 (.reg false [0, 1, 4, 8] [⟨(some 32), none, false, .mov (.t 7)⟩,
 ⟨(some 33), none, false, .mov (.t 6)⟩,
 ⟨(some 34), none, false, .len true (.t 33)⟩,
 ⟨(some 35), none, false, .sls (.t 32) (some (.t 34)) none⟩,
 ⟨(some 8), none, false, .mov (.t 35)⟩])
 (.seq
 (.reg false [0, 1, 4, 8, 9] [⟨(some 36), none, false, .mov (.t 8)⟩,
 ⟨(some 37), none, true, .call 61 [(.t 36), (.k (.d (.int .u8 64)))]⟩,
 ⟨(some 38), none, false, .ia 1 (.t 37) (.k (.d (.int .i64 0)))⟩,
 ⟨(some 39), none, false, .ld none (.t 38)⟩,
 ⟨(some 9), none, false, .mov (.t 39)⟩])
 (.seq
 (.seq
 (.reg false [0, 1, 4, 8, 9, 44] [⟨(some 40), none, false, .mov (.t 9)⟩,
 ⟨(some 41), none, false, .len true (.t 40)⟩,
 ⟨(some 42), none, false, .mov (.t 8)⟩,
 ⟨(some 43), none, false, .len true (.t 42)⟩,
 ⟨(some 44), none, false, .bin .eql (.t 41) (.t 43)⟩])
 (.cond (.t 44)
 (.seq
 (.reg false [4, 5] [⟨(some 45), none, true, .bld (.cons (.str []) (.cons (.str []) .nil)) []⟩,
 ⟨none, none, true, .st 2 (.t 4) (.t 45)⟩,
 ⟨(some 5), none, false, .mov (.k (.d (.bool false)))⟩])
 .ret)
 .skip))
 (.seq
 (.reg false [0, 1, 4, 10] [⟨(some 46), none, false, .mov (.t 9)⟩,
 ⟨(some 47), none, false, .mov (.t 8)⟩,
 ⟨(some 48), none, false, .mov (.t 9)⟩,
 ⟨(some 49), none, false, .len true (.t 48)⟩,
 ⟨(some 50), none, false, .bin .add (.t 49) (.k (.d (.int .i64 1)))⟩,
 ⟨(some 51), none, false, .sls (.t 47) (some (.t 50)) none⟩,
 ⟨(some 52), none, true, .bld (.cons (.str []) (.cons (.str []) .nil)) [(0, (.t 46)), (1, (.t 51))]⟩,
 ⟨(some 10), none, true, .alloc (.st (.cons (.str []) (.cons (.str []) .nil)))⟩,
 ⟨none, none, true, .st 2 (.t 10) (.t 52)⟩])
 (.seq
 (.any [11, 12] [4, 5] (.q 0 ⟨(some 53), none, false, .ld (some 2) (.t 10)⟩ (.e 1 ⟨(some 54), none, false, .ld (some 2) (.t 10)⟩ (.e 2 ⟨(some 55), none, true, .call 45 [(.t 54)]⟩ (.q 3 ⟨(some 56), none, false, .mov (.t 55)⟩ (.q 4 ⟨(some 57), (some (56, true)), false, .mov (.t 1)⟩ (.q 7 ⟨(some 60), (some (56, true)), false, .mov (.t 0)⟩ (.q 8 ⟨(some 61), (some (56, true)), false, .bin .add (.t 60) (.k (.d (.str [10])))⟩ (.e 5 ⟨(some 58), (some (56, true)), false, .ld (some 2) (.t 10)⟩ (.e 6 ⟨(some 59), (some (56, true)), true, .call 46 [(.t 57), (.t 58)]⟩ (.q 9 ⟨(some 62), (some (56, true)), false, .bin .eql (.t 59) (.t 61)⟩ (.q 10 ⟨(some 63), none, false, .pick (.t 56) (.t 62) (.k (.d (.bool false)))⟩ (.e 11 ⟨none, none, true, .st 2 (.t 4) (.t 53)⟩ (.e 12 ⟨(some 5), none, false, .mov (.t 63)⟩ .done))))))))))))))
 .ret)))))))))
theorem c62 : (Go.Proofs.Tryd.f62).body.bind (comp prog.P (2, (Go.Proofs.Tryd.f62).ntmps) lv62) = some m62 := by kernel_rfl
theorem r62 : resOK prog.P (Go.Proofs.Tryd.f62).results.toList = true := by kernel_rfl

/-- spec.l27Plain -/
def lv63 : List (Nat × List Nat) := [(0, [0, 1]), (1, [0, 1, 5]), (2, [0, 1, 5, 9]), (3, [0, 1, 5]), (4, [0, 1, 5, 23]), (5, [4]), (6, [4])]
def m63 : MC :=
  (.seq
 (.reg false [0, 1] [⟨(some 4), none, false, .mov (.k (.d (.bool false)))⟩])
 (.seq
 (.seq
 (.reg false [0, 1, 5] [⟨(some 5), none, false, .mov (.k (.d (.int .i64 0)))⟩])
 (.block 0
 (.loop
 (.seq
 (.seq
 (.reg false [0, 1, 5, 9] [⟨(some 6), none, false, .mov (.t 5)⟩,
 ⟨(some 7), none, false, .mov (.t 0)⟩,
 ⟨(some 8), none, false, .len true (.t 7)⟩,
 ⟨(some 9), none, false, .bin .lss (.t 6) (.t 8)⟩])
 (.cond (.t 9)
 .skip
 (.exit 0)))
 (.seq
 (.block 1
 (.seq
 (.reg false [0, 1, 5, 23] [⟨(some 12), none, false, .mov (.t 0)⟩,
 ⟨(some 13), none, false, .mov (.t 5)⟩,
 ⟨(some 14), none, false, .ix (.t 12) (.t 13)⟩,
 ⟨(some 15), none, false, .conv .i64 (.t 14)⟩,
 ⟨(some 16), none, true, .call 47 [(.t 15), (.k (.d (.int .i64 32))), (.k (.d (.int .i64 126)))]⟩,
 ⟨(some 17), none, false, .un .not (.t 16)⟩,
 ⟨(some 18), none, false, .mov (.t 17)⟩,
 ⟨(some 19), (some (18, false)), false, .mov (.t 0)⟩,
 ⟨(some 20), (some (18, false)), false, .mov (.t 5)⟩,
 ⟨(some 21), (some (18, false)), false, .ix (.t 19) (.t 20)⟩,
 ⟨(some 22), (some (18, false)), false, .bin .eql (.t 21) (.k (.d (.int .u8 35)))⟩,
 ⟨(some 23), none, false, .pick (.t 18) (.k (.d (.bool true))) (.t 22)⟩])
 (.cond (.t 23)
 (.seq
 (.reg false [4] [⟨(some 4), none, false, .mov (.k (.d (.bool false)))⟩])
 .ret)
 .skip)))
 (.reg false [0, 1, 5] [⟨(some 10), none, false, .mov (.t 5)⟩,
 ⟨(some 11), none, false, .bin .add (.t 10) (.k (.d (.int .i64 1)))⟩,
 ⟨(some 5), none, false, .mov (.t 11)⟩]))))))
 (.seq
 (.reg false [4] [⟨(some 24), none, false, .mov (.t 0)⟩,
 ⟨(some 25), none, false, .len true (.t 24)⟩,
 ⟨(some 26), none, false, .mov (.t 1)⟩,
 ⟨(some 27), none, false, .bin .leq (.t 25) (.t 26)⟩,
 ⟨(some 4), none, false, .mov (.t 27)⟩])
 .ret)))
theorem c63 : (Go.Proofs.Tryd.f63).body.bind (comp prog.P (2, (Go.Proofs.Tryd.f63).ntmps) lv63) = some m63 := by kernel_rfl
theorem r63 : resOK prog.P (Go.Proofs.Tryd.f63).results.toList = true := by kernel_rfl

/-- spec.l1Stands -/
def lv64 : List (Nat × List Nat) := [(0, [0, 1]), (1, [0, 1, 5]), (2, [0, 1, 5, 9]), (3, [0, 1, 5]), (4, [0, 1, 5, 16]), (5, [4]), (6, [4])]
def m64 : MC :=
  (.seq
 (.reg false [0, 1] [⟨(some 4), none, false, .mov (.k (.d (.bool false)))⟩])
 (.seq
 (.seq
 (.reg false [0, 1, 5] [⟨(some 5), none, false, .mov (.k (.d (.int .i64 0)))⟩])
 (.block 0
 (.loop
 (.seq
 (.seq
 (.reg false [0, 1, 5, 9] [⟨(some 6), none, false, .mov (.t 5)⟩,
 ⟨(some 7), none, false, .mov (.t 0)⟩,
 ⟨(some 8), none, false, .len true (.t 7)⟩,
 ⟨(some 9), none, false, .bin .lss (.t 6) (.t 8)⟩])
 (.cond (.t 9)
 .skip
 (.exit 0)))
 (.seq
 (.block 1
 (.seq
 (.reg false [0, 1, 5, 16] [⟨(some 12), none, false, .mov (.t 0)⟩,
 ⟨(some 13), none, false, .mov (.t 5)⟩,
 ⟨(some 14), none, false, .ix (.t 12) (.t 13)⟩,
 ⟨(some 15), none, false, .mov (.t 1)⟩,
 ⟨(some 16), none, false, .bin .eql (.t 14) (.t 15)⟩])
 (.cond (.t 16)
 (.seq
 (.reg false [4] [⟨(some 4), none, false, .mov (.k (.d (.bool true)))⟩])
 .ret)
 .skip)))
 (.reg false [0, 1, 5] [⟨(some 10), none, false, .mov (.t 5)⟩,
 ⟨(some 11), none, false, .bin .add (.t 10) (.k (.d (.int .i64 1)))⟩,
 ⟨(some 5), none, false, .mov (.t 11)⟩]))))))
 (.seq
 (.reg false [4] [⟨(some 4), none, false, .mov (.k (.d (.bool false)))⟩])
 .ret)))
theorem c64 : (Go.Proofs.Tryd.f64).body.bind (comp prog.P (2, (Go.Proofs.Tryd.f64).ntmps) lv64) = some m64 := by kernel_rfl
theorem r64 : resOK prog.P (Go.Proofs.Tryd.f64).results.toList = true := by kernel_rfl

/-- spec.l1Seal -/
def lv65 : List (Nat × List Nat) := [(0, [0]), (1, [2])]
def m65 : MC :=
  (.seq
 (.reg false [0] [⟨(some 2), none, false, .mov (.k (.d (.str [])))⟩])
 (.seq
 (.reg false [2] [⟨(some 3), none, false, .mov (.t 0)⟩,
 ⟨(some 4), none, false, .bin .add (.t 3) (.k (.d (.str [35])))⟩,
 ⟨(some 5), none, false, .mov (.t 0)⟩,
 ⟨(some 6), none, true, .call 74 [(.t 5)]⟩,
 ⟨(some 7), none, true, .call 66 [(.t 6)]⟩,
 ⟨(some 8), none, false, .bin .add (.t 4) (.t 7)⟩,
 ⟨(some 2), none, false, .mov (.t 8)⟩])
 .ret))
theorem c65 : (Go.Proofs.Tryd.f65).body.bind (comp prog.P (1, (Go.Proofs.Tryd.f65).ntmps) lv65) = some m65 := by kernel_rfl
theorem r65 : resOK prog.P (Go.Proofs.Tryd.f65).results.toList = true := by kernel_rfl

/-- spec.l1Num -/
def lv66 : List (Nat × List Nat) := [(0, [0]), (1, [0, 4]), (2, [2]), (3, [0, 10]), (4, [2]), (5, [2])]
def m66 : MC :=
  (.seq
 (.reg false [0] [⟨(some 2), none, false, .mov (.k (.d (.str [])))⟩])
 (.seq
 (.seq
 (.reg false [0, 4] [⟨(some 3), none, false, .mov (.t 0)⟩,
 ⟨(some 4), none, false, .bin .lss (.t 3) (.k (.d (.int .i64 0)))⟩])
 (.cond (.t 4)
 (.seq
 (.reg false [2] [⟨(some 5), none, false, .mov (.t 0)⟩,
 ⟨(some 6), none, false, .un .neg (.t 5)⟩,
 ⟨(some 7), none, true, .call 66 [(.t 6)]⟩,
 ⟨(some 8), none, false, .bin .add (.k (.d (.str [45]))) (.t 7)⟩,
 ⟨(some 2), none, false, .mov (.t 8)⟩])
 .ret)
 .skip))
 (.seq
 (.seq
 (.reg false [0, 10] [⟨(some 9), none, false, .mov (.t 0)⟩,
 ⟨(some 10), none, false, .bin .lss (.t 9) (.k (.d (.int .i64 10)))⟩])
 (.cond (.t 10)
 (.seq
 (.reg false [2] [⟨(some 11), none, false, .mov (.t 0)⟩,
 ⟨(some 12), none, false, .mov (.t 0)⟩,
 ⟨(some 13), none, false, .bin .add (.t 12) (.k (.d (.int .i64 1)))⟩,
 ⟨(some 14), none, false, .sls (.k (.d (.str [48, 49, 50, 51, 52, 53, 54, 55, 56, 57]))) (some (.t 11)) (some (.t 13))⟩,
 ⟨(some 2), none, false, .mov (.t 14)⟩])
 .ret)
 .skip))
 (.seq
 (.reg true [2] [⟨(some 15), none, false, .mov (.t 0)⟩,
 ⟨(some 16), none, false, .bin .quo (.t 15) (.k (.d (.int .i64 10)))⟩,
 ⟨(some 17), none, false, .callP 66 [(.t 16)]⟩,
 ⟨(some 18), none, false, .mov (.t 0)⟩,
 ⟨(some 19), none, false, .bin .rem (.t 18) (.k (.d (.int .i64 10)))⟩,
 ⟨(some 20), none, false, .mov (.t 0)⟩,
 ⟨(some 21), none, false, .bin .rem (.t 20) (.k (.d (.int .i64 10)))⟩,
 ⟨(some 22), none, false, .bin .add (.t 21) (.k (.d (.int .i64 1)))⟩,
 ⟨(some 23), none, false, .sls (.k (.d (.str [48, 49, 50, 51, 52, 53, 54, 55, 56, 57]))) (some (.t 19)) (some (.t 22))⟩,
 ⟨(some 24), none, false, .bin .add (.t 17) (.t 23)⟩,
 ⟨(some 2), none, false, .mov (.t 24)⟩])
 .ret))))
theorem c66 : (Go.Proofs.Tryd.f66).body.bind (comp prog.P (1, (Go.Proofs.Tryd.f66).ntmps) lv66) = some m66 := by kernel_rfl
theorem r66 : resOK prog.P (Go.Proofs.Tryd.f66).results.toList = true := by kernel_rfl

/-- spec.l1Cur).of -/
def lv67 : List (Nat × List Nat) := [(0, [0, 1]), (1, [0, 4])]
def m67 : MC :=
  (.seq
 (.reg false [0, 1] [⟨(some 4), none, false, .mov (.k (.d (.str [])))⟩])
 (.seq
 (.reg false [0, 4] [⟨(some 5), none, false, .mov (.t 1)⟩,
 ⟨(some 6), none, false, .mov (.t 0)⟩,
 ⟨(some 7), none, false, .mov (.t 1)⟩,
 ⟨(some 8), none, false, .len false (.t 7)⟩,
 ⟨(some 9), none, true, .call 54 [(.t 6), (.t 8)]⟩,
 ⟨(some 10), none, false, .ia 1 (.t 5) (.t 9)⟩,
 ⟨(some 11), none, false, .ld none (.t 10)⟩,
 ⟨(some 4), none, false, .mov (.t 11)⟩])
 .ret))
theorem c67 : (Go.Proofs.Tryd.f67).body.bind (comp prog.P (2, (Go.Proofs.Tryd.f67).ntmps) lv67) = some m67 := by kernel_rfl
theorem r67 : resOK prog.P (Go.Proofs.Tryd.f67).results.toList = true := by kernel_rfl

/-- impl.checksum -/
def lv68 : List (Nat × List Nat) := [(0, [0]), (1, [0, 3]), (2, [0, 3, 6, 7]), (3, [0, 3, 6, 7, 8]), (4, [0, 3, 4, 6, 7]), (5, [0, 3, 6, 7]), (6, [0, 3, 6, 7]), (7, [2])]
def m68 : MC :=
  (.seq
 (.reg false [0] [⟨(some 2), none, false, .mov (.k (.d (.int .i64 0)))⟩])
 (.seq
 (.reg false [0, 3] [⟨(some 3), none, false, .mov (.k (.d (.int .i64 7)))⟩])
 (.seq
 (.seq
 (.reg false [0, 3, 6, 7] [⟨(some 5), none, false, .mov (.t 0)⟩,
 ⟨(some 6), none, false, .len true (.t 5)⟩,
 ⟨(some 7), none, false, .mov (.k (.d (.int .i64 0)))⟩])
 (.block 0
 (.loop
 (.seq
 (.reg false [0, 3, 6, 7, 8] [⟨(some 8), none, false, .bin .lss (.t 7) (.t 6)⟩])
 (.seq
 (.cond (.t 8)
 .skip
 (.exit 0))
 (.seq
 (.block 1
 (.seq
 (.reg false [0, 3, 4, 6, 7] [⟨(some 9), none, false, .mov (.t 7)⟩,
 ⟨(some 4), none, false, .mov (.t 9)⟩])
 (.reg false [0, 3, 6, 7] [⟨(some 10), none, false, .mov (.t 3)⟩,
 ⟨(some 11), none, false, .bin .mul (.k (.d (.int .i64 41))) (.t 10)⟩,
 ⟨(some 12), none, false, .mov (.t 0)⟩,
 ⟨(some 13), none, false, .mov (.t 4)⟩,
 ⟨(some 14), none, false, .ix (.t 12) (.t 13)⟩,
 ⟨(some 15), none, false, .conv .i64 (.t 14)⟩,
 ⟨(some 16), none, false, .bin .add (.t 11) (.t 15)⟩,
 ⟨(some 17), none, false, .bin .add (.t 16) (.k (.d (.int .i64 1)))⟩,
 ⟨(some 18), none, false, .bin .rem (.t 17) (.k (.d (.int .i64 999979)))⟩,
 ⟨(some 3), none, false, .mov (.t 18)⟩])))
 (.reg false [0, 3, 6, 7] [⟨(some 19), none, false, .bin .add (.t 7) (.k (.d (.int .i64 1)))⟩,
 ⟨(some 7), none, false, .mov (.t 19)⟩])))))))
 (.seq
 (.reg false [2] [⟨(some 20), none, false, .mov (.t 3)⟩,
 ⟨(some 2), none, false, .mov (.t 20)⟩])
 .ret))))
theorem c68 : (Go.Proofs.Tryd.f68).body.bind (comp prog.P (1, (Go.Proofs.Tryd.f68).ntmps) lv68) = some m68 := by kernel_rfl
theorem r68 : resOK prog.P (Go.Proofs.Tryd.f68).results.toList = true := by kernel_rfl

/-- spec.l1Cur).next -/
def lv70 : List (Nat × List Nat) := [(0, [0]), (1, [0, 3]), (2, [0, 3, 13]), (3, [0, 3]), (4, [0, 3]), (5, [0, 3]), (6, [0, 3, 53]), (7, [0, 2]), (8, [0, 2])]
def m70 : MC :=
  (.seq
 (.reg false [0] [⟨(some 2), none, false, .mov (.k (.d (.int .i64 0)))⟩])
 (.seq
 (.reg false [0, 3] [⟨(some 3), none, false, .mov (.k (.d (.int .i64 0)))⟩])
 (.seq
 (.seq
 (.reg true [0, 3, 13] [⟨(some 4), none, false, .mov (.t 0)⟩,
 ⟨(some 5), none, false, .nck (.t 4)⟩,
 ⟨(some 6), none, false, .fa 1 1 (.t 5)⟩,
 ⟨(some 7), none, false, .ld none (.t 6)⟩,
 ⟨(some 8), none, false, .mov (.t 0)⟩,
 ⟨(some 9), none, false, .nck (.t 8)⟩,
 ⟨(some 10), none, false, .fa 0 0 (.t 9)⟩,
 ⟨(some 11), none, false, .ld none (.t 10)⟩,
 ⟨(some 12), none, false, .len false (.t 11)⟩,
 ⟨(some 13), none, false, .bin .lss (.t 7) (.t 12)⟩])
 (.cond (.t 13)
 (.reg true [0, 3] [⟨(some 14), none, false, .mov (.t 0)⟩,
 ⟨(some 15), none, false, .nck (.t 14)⟩,
 ⟨(some 16), none, false, .fa 0 0 (.t 15)⟩,
 ⟨(some 17), none, false, .ld none (.t 16)⟩,
 ⟨(some 18), none, false, .mov (.t 0)⟩,
 ⟨(some 19), none, false, .nck (.t 18)⟩,
 ⟨(some 20), none, false, .fa 1 1 (.t 19)⟩,
 ⟨(some 21), none, false, .ld none (.t 20)⟩,
 ⟨(some 22), none, false, .ia 1 (.t 17) (.t 21)⟩,
 ⟨(some 23), none, false, .ld none (.t 22)⟩,
 ⟨(some 24), none, false, .conv .i64 (.t 23)⟩,
 ⟨(some 3), none, false, .mov (.t 24)⟩])
 .skip))
 (.seq
 (.reg false [0, 3] [⟨(some 25), none, false, .mov (.t 0)⟩,
 ⟨(some 26), none, false, .nck (.t 25)⟩,
 ⟨(some 27), none, false, .fa 1 1 (.t 26)⟩,
 ⟨(some 28), none, false, .ld none (.t 27)⟩,
 ⟨(some 29), none, false, .bin .add (.t 28) (.k (.d (.int .i64 1)))⟩,
 ⟨(some 30), none, false, .nck (.t 25)⟩,
 ⟨(some 31), none, false, .fa 1 1 (.t 30)⟩,
 ⟨none, none, true, .st 1 (.t 31) (.t 29)⟩])
 (.seq
 (.reg false [0, 3] [⟨(some 32), none, false, .mov (.t 0)⟩,
 ⟨(some 33), none, false, .mov (.t 0)⟩,
 ⟨(some 34), none, false, .nck (.t 33)⟩,
 ⟨(some 35), none, false, .fa 2 2 (.t 34)⟩,
 ⟨(some 36), none, false, .ld none (.t 35)⟩,
 ⟨(some 37), none, false, .bin .mul (.t 36) (.k (.d (.int .u64 6364136223846793005)))⟩,
 ⟨(some 38), none, false, .mov (.t 3)⟩,
 ⟨(some 39), none, false, .conv .u64 (.t 38)⟩,
 ⟨(some 40), none, false, .bin .add (.t 37) (.t 39)⟩,
 ⟨(some 41), none, false, .bin .add (.t 40) (.k (.d (.int .u64 103535)))⟩,
 ⟨(some 42), none, false, .nck (.t 32)⟩,
 ⟨(some 43), none, false, .fa 2 2 (.t 42)⟩,
 ⟨none, none, true, .st 1 (.t 43) (.t 41)⟩])
 (.seq
 (.seq
 (.reg true [0, 3, 53] [⟨(some 44), none, false, .mov (.t 0)⟩,
 ⟨(some 45), none, false, .nck (.t 44)⟩,
 ⟨(some 46), none, false, .fa 1 1 (.t 45)⟩,
 ⟨(some 47), none, false, .ld none (.t 46)⟩,
 ⟨(some 48), none, false, .mov (.t 0)⟩,
 ⟨(some 49), none, false, .nck (.t 48)⟩,
 ⟨(some 50), none, false, .fa 0 0 (.t 49)⟩,
 ⟨(some 51), none, false, .ld none (.t 50)⟩,
 ⟨(some 52), none, false, .len false (.t 51)⟩,
 ⟨(some 53), none, false, .bin .leq (.t 47) (.t 52)⟩])
 (.cond (.t 53)
 (.seq
 (.reg false [0, 2] [⟨(some 54), none, false, .mov (.t 3)⟩,
 ⟨(some 2), none, false, .mov (.t 54)⟩])
 .ret)
 .skip))
 (.seq
 (.reg false [0, 2] [⟨(some 55), none, false, .mov (.t 0)⟩,
 ⟨(some 56), none, false, .nck (.t 55)⟩,
 ⟨(some 57), none, false, .fa 2 2 (.t 56)⟩,
 ⟨(some 58), none, false, .ld none (.t 57)⟩,
 ⟨(some 59), none, false, .shr (.t 58) (.k (.d (.int .u64 40)))⟩,
 ⟨(some 60), none, false, .bin .and (.t 59) (.k (.d (.int .u64 255)))⟩,
 ⟨(some 61), none, false, .conv .i64 (.t 60)⟩,
 ⟨(some 2), none, false, .mov (.t 61)⟩])
 .ret)))))))
theorem c70 : (Go.Proofs.Tryd.f70).body.bind (comp prog.P (1, (Go.Proofs.Tryd.f70).ntmps) lv70) = some m70 := by kernel_rfl
theorem r70 : resOK prog.P (Go.Proofs.Tryd.f70).results.toList = true := by kernel_rfl

/-- impl.VerifyChecksum -/
def lv72 : List (Nat × List Nat) := [(0, [0]), (1, [0, 4]), (2, [0, 4, 7, 8]), (3, [4, 26]), (4, [2, 3]), (5, [2, 3])]
def m72 : MC :=
  (.seq
 (.reg false [0] [⟨(some 2), none, false, .mov (.k (.d (.str [])))⟩,
 ⟨(some 3), none, false, .mov (.k (.d (.bool false)))⟩])
 (.seq
 (.reg false [0, 4] [⟨(some 10), none, false, .mov (.t 0)⟩,
 ⟨(some 11), none, true, .call 71 [(.t 10), (.k (.d (.str [35])))]⟩,
 ⟨(some 9), none, false, .mov (.t 11)⟩,
 ⟨(some 12), none, false, .ext (.t 9) 0⟩,
 ⟨(some 13), none, false, .ext (.t 9) 1⟩,
 ⟨(some 14), none, false, .ext (.t 9) 2⟩,
 ⟨(some 4), none, false, .mov (.t 12)⟩,
 ⟨(some 5), none, false, .mov (.t 13)⟩,
 ⟨(some 6), none, false, .mov (.t 14)⟩])
 (.seq
 (.seq
 (.reg false [0, 4, 7, 8] [⟨(some 16), none, false, .mov (.t 4)⟩,
 ⟨(some 17), none, true, .call 51 [(.t 16)]⟩,
 ⟨(some 15), none, false, .mov (.t 17)⟩,
 ⟨(some 18), none, false, .ext (.t 15) 0⟩,
 ⟨(some 19), none, false, .ext (.t 15) 1⟩,
 ⟨(some 7), none, false, .mov (.t 18)⟩,
 ⟨(some 8), none, false, .mov (.t 19)⟩])
 (.seq
 (.reg false [4, 26] [⟨(some 20), none, false, .mov (.t 8)⟩,
 ⟨(some 21), none, false, .un .not (.t 20)⟩,
 ⟨(some 22), none, false, .mov (.t 21)⟩,
 ⟨(some 23), (some (22, false)), false, .mov (.t 7)⟩,
 ⟨(some 24), (some (22, false)), false, .mov (.t 0)⟩,
 ⟨(some 25), (some (22, false)), false, .bin .neq (.t 23) (.t 24)⟩,
 ⟨(some 26), none, false, .pick (.t 22) (.k (.d (.bool true))) (.t 25)⟩])
 (.cond (.t 26)
 (.seq
 (.reg false [2, 3] [⟨(some 2), none, false, .mov (.k (.d (.str [])))⟩,
 ⟨(some 3), none, false, .mov (.k (.d (.bool false)))⟩])
 .ret)
 .skip)))
 (.seq
 (.reg false [2, 3] [⟨(some 27), none, false, .mov (.t 4)⟩,
 ⟨(some 2), none, false, .mov (.t 27)⟩,
 ⟨(some 3), none, false, .mov (.k (.d (.bool true)))⟩])
 .ret))))
theorem c72 : (Go.Proofs.Tryd.f72).body.bind (comp prog.P (1, (Go.Proofs.Tryd.f72).ntmps) lv72) = some m72 := by kernel_rfl
theorem r72 : resOK prog.P (Go.Proofs.Tryd.f72).results.toList = true := by kernel_rfl

/-- spec.l1Sum -/
def lv74 : List (Nat × List Nat) := [(0, [0]), (1, [0, 3]), (2, [0, 3, 4]), (3, [0, 3, 4, 8]), (4, [0, 3, 4]), (5, [0, 3, 4]), (6, [2])]
def m74 : MC :=
  (.seq
 (.reg false [0] [⟨(some 2), none, false, .mov (.k (.d (.int .i64 0)))⟩])
 (.seq
 (.reg false [0, 3] [⟨(some 3), none, false, .mov (.k (.d (.int .i64 7)))⟩])
 (.seq
 (.seq
 (.reg false [0, 3, 4] [⟨(some 4), none, false, .mov (.k (.d (.int .i64 0)))⟩])
 (.block 0
 (.loop
 (.seq
 (.seq
 (.reg false [0, 3, 4, 8] [⟨(some 5), none, false, .mov (.t 4)⟩,
 ⟨(some 6), none, false, .mov (.t 0)⟩,
 ⟨(some 7), none, false, .len true (.t 6)⟩,
 ⟨(some 8), none, false, .bin .lss (.t 5) (.t 7)⟩])
 (.cond (.t 8)
 .skip
 (.exit 0)))
 (.seq
 (.block 1
 (.reg false [0, 3, 4] [⟨(some 11), none, false, .mov (.t 3)⟩,
 ⟨(some 12), none, false, .bin .mul (.k (.d (.int .i64 41))) (.t 11)⟩,
 ⟨(some 13), none, false, .mov (.t 0)⟩,
 ⟨(some 14), none, false, .mov (.t 4)⟩,
 ⟨(some 15), none, false, .ix (.t 13) (.t 14)⟩,
 ⟨(some 16), none, false, .conv .i64 (.t 15)⟩,
 ⟨(some 17), none, false, .bin .add (.t 12) (.t 16)⟩,
 ⟨(some 18), none, false, .bin .add (.t 17) (.k (.d (.int .i64 1)))⟩,
 ⟨(some 19), none, false, .bin .rem (.t 18) (.k (.d (.int .i64 999979)))⟩,
 ⟨(some 3), none, false, .mov (.t 19)⟩]))
 (.reg false [0, 3, 4] [⟨(some 9), none, false, .mov (.t 4)⟩,
 ⟨(some 10), none, false, .bin .add (.t 9) (.k (.d (.int .i64 1)))⟩,
 ⟨(some 4), none, false, .mov (.t 10)⟩]))))))
 (.seq
 (.reg false [2] [⟨(some 20), none, false, .mov (.t 3)⟩,
 ⟨(some 2), none, false, .mov (.t 20)⟩])
 .ret))))
theorem c74 : (Go.Proofs.Tryd.f74).body.bind (comp prog.P (1, (Go.Proofs.Tryd.f74).ntmps) lv74) = some m74 := by kernel_rfl
theorem r74 : resOK prog.P (Go.Proofs.Tryd.f74).results.toList = true := by kernel_rfl

end Go.Pe.Tryd
