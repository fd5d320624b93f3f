/-
The compact code of the functions that the law reaches, printed by gen.py, each with the proof that the machine's code is compiled to it.
-/
import Derived.Test.YtmklnnagndckpaaGreatDoorMc1
import Derived.Test.YtmklnnagndckpaaGreatDoorProg
import Derived.KernelRfl
set_option maxRecDepth 100000
namespace Go.Pe.Tryz
open Go.Pe

/-- strings.Trim -/
def lv161 : List (Nat × List Nat) := [(0, [0, 1]), (1, [0, 1, 12]), (2, [4]), (3, [0, 1, 21]), (4, [4]), (5, [0, 1, 5, 6]), (6, [0, 1, 5, 34]), (7, [4]), (8, [4])]
def m161 : MC :=
  (.seq
 (.reg false [0, 1] [⟨(some 4), none, false, .mov (.k (.d (.str [])))⟩])
 (.seq
 (.seq
 (.reg false [0, 1, 12] [⟨(some 7), none, false, .mov (.t 0)⟩,
 ⟨(some 8), none, false, .bin .eql (.t 7) (.k (.d (.str [])))⟩,
 ⟨(some 9), none, false, .mov (.t 8)⟩,
 ⟨(some 10), (some (9, false)), false, .mov (.t 1)⟩,
 ⟨(some 11), (some (9, false)), false, .bin .eql (.t 10) (.k (.d (.str [])))⟩,
 ⟨(some 12), none, false, .pick (.t 9) (.k (.d (.bool true))) (.t 11)⟩])
 (.cond (.t 12)
 (.seq
 (.reg false [4] [⟨(some 13), none, false, .mov (.t 0)⟩,
 ⟨(some 4), none, false, .mov (.t 13)⟩])
 .ret)
 .skip))
 (.seq
 (.seq
 (.reg false [0, 1, 21] [⟨(some 14), none, false, .mov (.t 1)⟩,
 ⟨(some 15), none, false, .len true (.t 14)⟩,
 ⟨(some 16), none, false, .bin .eql (.t 15) (.k (.d (.int .i64 1)))⟩,
 ⟨(some 17), none, false, .mov (.t 16)⟩,
 ⟨(some 18), (some (17, true)), false, .mov (.t 1)⟩,
 ⟨(some 19), (some (17, true)), false, .ix (.t 18) (.k (.d (.int .i64 0)))⟩,
 ⟨(some 20), (some (17, true)), false, .bin .lss (.t 19) (.k (.d (.int .u8 128)))⟩,
 ⟨(some 21), none, false, .pick (.t 17) (.t 20) (.k (.d (.bool false)))⟩])
 (.cond (.t 21)
 (.seq
 (.reg true [4] [⟨(some 22), none, false, .mov (.t 0)⟩,
 ⟨(some 23), none, false, .mov (.t 1)⟩,
 ⟨(some 24), none, false, .ix (.t 23) (.k (.d (.int .i64 0)))⟩,
 ⟨(some 25), none, false, .callP 183 [(.t 22), (.t 24)]⟩,
 ⟨(some 26), none, false, .mov (.t 1)⟩,
 ⟨(some 27), none, false, .ix (.t 26) (.k (.d (.int .i64 0)))⟩,
 ⟨(some 28), none, false, .callP 182 [(.t 25), (.t 27)]⟩,
 ⟨(some 4), none, false, .mov (.t 28)⟩])
 .ret)
 .skip))
 (.seq
 (.seq
 (.reg false [0, 1, 5, 6] [⟨(some 30), none, false, .mov (.t 1)⟩,
 ⟨(some 31), none, true, .call 184 [(.t 30)]⟩,
 ⟨(some 29), none, false, .mov (.t 31)⟩,
 ⟨(some 32), none, false, .ext (.t 29) 0⟩,
 ⟨(some 33), none, false, .ext (.t 29) 1⟩,
 ⟨(some 5), none, true, .alloc (.st (ofL (List.replicate 256 (.bool false))))⟩,
 ⟨none, none, true, .st 256 (.t 5) (.t 32)⟩,
 ⟨(some 6), none, false, .mov (.t 33)⟩])
 (.seq
 (.reg false [0, 1, 5, 34] [⟨(some 34), none, false, .mov (.t 6)⟩])
 (.cond (.t 34)
 (.seq
 (.reg false [4] [⟨(some 35), none, false, .mov (.t 0)⟩,
 ⟨(some 36), none, true, .call 186 [(.t 35), (.t 5)]⟩,
 ⟨(some 37), none, true, .call 185 [(.t 36), (.t 5)]⟩,
 ⟨(some 4), none, false, .mov (.t 37)⟩])
 .ret)
 .skip)))
 (.seq
 (.reg false [4] [⟨(some 38), none, false, .mov (.t 0)⟩,
 ⟨(some 39), none, false, .mov (.t 1)⟩,
 ⟨(some 40), none, true, .call 188 [(.t 38), (.t 39)]⟩,
 ⟨(some 41), none, false, .mov (.t 1)⟩,
 ⟨(some 42), none, true, .call 187 [(.t 40), (.t 41)]⟩,
 ⟨(some 4), none, false, .mov (.t 42)⟩])
 .ret)))))
theorem c161 : (Go.Proofs.Tryz.f161).body.bind (comp prog.P (2, (Go.Proofs.Tryz.f161).ntmps) lv161) = some m161 := by kernel_rfl
theorem r161 : resOK prog.P (Go.Proofs.Tryz.f161).results.toList = true := by kernel_rfl

/-- slices.IndexFunc[[]int,int] -/
def lv162 : List (Nat × List Nat) := [(0, [0, 1]), (1, [0, 1, 7, 8]), (2, [0, 1, 7, 8, 9]), (3, [0, 1, 5, 7, 8]), (4, [0, 1, 5, 7, 8, 16]), (5, [4]), (6, [0, 1, 7, 8]), (7, [4])]
def m162 : MC :=
  (.seq
 (.reg false [0, 1] [⟨(some 4), none, false, .mov (.k (.d (.int .i64 0)))⟩])
 (.seq
 (.seq
 (.reg false [0, 1, 7, 8] [⟨(some 6), none, false, .mov (.t 0)⟩,
 ⟨(some 7), none, false, .len false (.t 6)⟩,
 ⟨(some 8), none, false, .mov (.k (.d (.int .i64 0)))⟩])
 (.block 0
 (.loop
 (.seq
 (.reg false [0, 1, 7, 8, 9] [⟨(some 9), none, false, .bin .lss (.t 8) (.t 7)⟩])
 (.seq
 (.cond (.t 9)
 .skip
 (.exit 0))
 (.seq
 (.block 1
 (.seq
 (.reg false [0, 1, 5, 7, 8] [⟨(some 10), none, false, .mov (.t 8)⟩,
 ⟨(some 5), none, false, .mov (.t 10)⟩])
 (.seq
 (.reg false [0, 1, 5, 7, 8, 16] [⟨(some 11), none, false, .mov (.t 1)⟩,
 ⟨(some 12), none, false, .mov (.t 0)⟩,
 ⟨(some 13), none, false, .mov (.t 5)⟩,
 ⟨(some 14), none, false, .ia 1 (.t 12) (.t 13)⟩,
 ⟨(some 15), none, false, .ld none (.t 14)⟩,
 ⟨(some 16), none, true, .callW (.t 11) [(.t 15)]⟩])
 (.cond (.t 16)
 (.seq
 (.reg false [4] [⟨(some 17), none, false, .mov (.t 5)⟩,
 ⟨(some 4), none, false, .mov (.t 17)⟩])
 .ret)
 .skip))))
 (.reg false [0, 1, 7, 8] [⟨(some 18), none, false, .bin .add (.t 8) (.k (.d (.int .i64 1)))⟩,
 ⟨(some 8), none, false, .mov (.t 18)⟩])))))))
 (.seq
 (.reg false [4] [⟨(some 4), none, false, .mov (.k (.d (.int .i64 (-1))))⟩])
 .ret)))
theorem c162 : (Go.Proofs.Tryz.f162).body.bind (comp prog.P (2, (Go.Proofs.Tryz.f162).ntmps) lv162) = some m162 := by kernel_rfl
theorem r162 : resOK prog.P (Go.Proofs.Tryz.f162).results.toList = true := by kernel_rfl

/-- spec.l1Split -/
def lv168 : List (Nat × List Nat) := [(0, [0, 1]), (1, [0, 1, 5]), (2, [0, 1, 5, 6]), (3, [0, 1, 5, 6, 7]), (4, [0, 1, 5, 6, 7, 12]), (5, [0, 1, 5, 6, 7]), (6, [0, 1, 5, 6, 7, 19]), (7, [0, 1, 5, 7]), (8, [0, 1, 5, 6, 7]), (9, [4])]
def m168 : MC :=
  (.seq
 (.reg false [0, 1] [⟨(some 4), none, false, .mov (.k .nil)⟩])
 (.seq
 (.reg false [0, 1, 5] [⟨(some 8), none, true, .bs 1 0 (.str []) []⟩,
 ⟨(some 5), none, false, .mov (.t 8)⟩])
 (.seq
 (.reg false [0, 1, 5, 6] [⟨(some 6), none, false, .mov (.k (.d (.int .i64 0)))⟩])
 (.seq
 (.seq
 (.reg false [0, 1, 5, 6, 7] [⟨(some 7), none, false, .mov (.k (.d (.int .i64 0)))⟩])
 (.block 0
 (.loop
 (.seq
 (.seq
 (.reg false [0, 1, 5, 6, 7, 12] [⟨(some 9), none, false, .mov (.t 7)⟩,
 ⟨(some 10), none, false, .mov (.t 0)⟩,
 ⟨(some 11), none, false, .len true (.t 10)⟩,
 ⟨(some 12), none, false, .bin .lss (.t 9) (.t 11)⟩])
 (.cond (.t 12)
 .skip
 (.exit 0)))
 (.seq
 (.block 1
 (.seq
 (.reg false [0, 1, 5, 6, 7, 19] [⟨(some 15), none, false, .mov (.t 0)⟩,
 ⟨(some 16), none, false, .mov (.t 7)⟩,
 ⟨(some 17), none, false, .ix (.t 15) (.t 16)⟩,
 ⟨(some 18), none, false, .mov (.t 1)⟩,
 ⟨(some 19), none, false, .bin .eql (.t 17) (.t 18)⟩])
 (.cond (.t 19)
 (.seq
 (.reg false [0, 1, 5, 7] [⟨(some 20), none, false, .mov (.t 5)⟩,
 ⟨(some 21), none, false, .mov (.t 0)⟩,
 ⟨(some 22), none, false, .mov (.t 6)⟩,
 ⟨(some 23), none, false, .mov (.t 7)⟩,
 ⟨(some 24), none, false, .sls (.t 21) (some (.t 22)) (some (.t 23))⟩,
 ⟨(some 25), none, true, .bs 1 1 (.str []) [(0, (.t 24))]⟩,
 ⟨(some 26), none, true, .app 1 16 (.t 20) (.t 25)⟩,
 ⟨(some 5), none, false, .mov (.t 26)⟩])
 (.reg false [0, 1, 5, 6, 7] [⟨(some 27), none, false, .mov (.t 7)⟩,
 ⟨(some 28), none, false, .bin .add (.t 27) (.k (.d (.int .i64 1)))⟩,
 ⟨(some 6), none, false, .mov (.t 28)⟩]))
 .skip)))
 (.reg false [0, 1, 5, 6, 7] [⟨(some 13), none, false, .mov (.t 7)⟩,
 ⟨(some 14), none, false, .bin .add (.t 13) (.k (.d (.int .i64 1)))⟩,
 ⟨(some 7), none, false, .mov (.t 14)⟩]))))))
 (.seq
 (.reg false [4] [⟨(some 29), none, false, .mov (.t 5)⟩,
 ⟨(some 30), none, false, .mov (.t 0)⟩,
 ⟨(some 31), none, false, .mov (.t 6)⟩,
 ⟨(some 32), none, false, .sls (.t 30) (some (.t 31)) none⟩,
 ⟨(some 33), none, true, .bs 1 1 (.str []) [(0, (.t 32))]⟩,
 ⟨(some 34), none, true, .app 1 16 (.t 29) (.t 33)⟩,
 ⟨(some 4), none, false, .mov (.t 34)⟩])
 .ret)))))
theorem c168 : (Go.Proofs.Tryz.f168).body.bind (comp prog.P (2, (Go.Proofs.Tryz.f168).ntmps) lv168) = some m168 := by kernel_rfl
theorem r168 : resOK prog.P (Go.Proofs.Tryz.f168).results.toList = true := by kernel_rfl

/-- spec.l27Read -/
def lv169 : List (Nat × List Nat) := [(0, [0, 1, 4]), (1, [0, 1, 4, 6]), (2, [0, 1, 4, 6, 7]), (3, [0, 1, 4, 6, 7, 30]), (4, [4, 5]), (5, [0, 1, 4, 8]), (6, [0, 1, 4, 8, 9]), (7, [0, 1, 4, 8, 9, 44]), (8, [4, 5]), (9, [0, 1, 4, 10]), (10, [4, 5]), (1000010, [2, 11, 12, 1, 0, 2, 1, 2, 2, 1, 3, 1, 4, 1, 7, 1, 8, 2, 5, 2, 6, 1, 9, 1, 10, 2, 11, 2, 12, 0])]
def m169 : MC :=
  (.seq
 (.reg false [0, 1, 4] [⟨(some 4), none, true, .alloc (.st (.cons (.str []) (.cons (.str []) .nil)))⟩,
 ⟨(some 5), none, false, .mov (.k (.d (.bool false)))⟩])
 (.seq
 (.reg false [0, 1, 4, 6] [⟨(some 11), none, false, .mov (.t 1)⟩,
 ⟨(some 12), none, true, .call 61 [(.t 11)]⟩,
 ⟨(some 13), none, false, .bin .add (.t 12) (.k (.d (.str [32])))⟩,
 ⟨(some 6), none, false, .mov (.t 13)⟩])
 (.seq
 (.reg false [0, 1, 4, 6, 7] [⟨(some 14), none, false, .mov (.t 0)⟩,
 ⟨(some 15), none, true, .call 168 [(.t 14), (.k (.d (.int .u8 35)))]⟩,
 ⟨(some 16), none, false, .ia 1 (.t 15) (.k (.d (.int .i64 0)))⟩,
 ⟨(some 17), none, false, .ld none (.t 16)⟩,
 ⟨(some 7), none, false, .mov (.t 17)⟩])
 (.seq
 (.seq
 (.reg false [0, 1, 4, 6, 7, 30] [⟨(some 18), none, false, .mov (.t 7)⟩,
 ⟨(some 19), none, false, .len true (.t 18)⟩,
 ⟨(some 20), none, false, .mov (.t 6)⟩,
 ⟨(some 21), none, false, .len true (.t 20)⟩,
 ⟨(some 22), none, false, .bin .lss (.t 19) (.t 21)⟩,
 ⟨(some 23), none, false, .mov (.t 22)⟩,
 ⟨(some 24), (some (23, false)), false, .mov (.t 7)⟩,
 ⟨(some 25), (some (23, false)), false, .mov (.t 6)⟩,
 ⟨(some 26), (some (23, false)), false, .len true (.t 25)⟩,
 ⟨(some 27), (some (23, false)), false, .sls (.t 24) none (some (.t 26))⟩,
 ⟨(some 28), (some (23, false)), false, .mov (.t 6)⟩,
 ⟨(some 29), (some (23, false)), false, .bin .neq (.t 27) (.t 28)⟩,
 ⟨(some 30), none, false, .pick (.t 23) (.k (.d (.bool true))) (.t 29)⟩])
 (.cond (.t 30)
 (.seq
 (.reg false [4, 5] [⟨(some 31), none, true, .bld (.cons (.str []) (.cons (.str []) .nil)) []⟩,
 ⟨none, none, true, .st 2 (.t 4) (.t 31)⟩,
 ⟨(some 5), none, false, .mov (.k (.d (.bool false)))⟩])
 .ret)
 .skip))
 (.seq
 (.reg false [0, 1, 4, 8] [⟨(some 32), none, false, .mov (.t 7)⟩,
 ⟨(some 33), none, false, .mov (.t 6)⟩,
 ⟨(some 34), none, false, .len true (.t 33)⟩,
 ⟨(some 35), none, false, .sls (.t 32) (some (.t 34)) none⟩,
 ⟨(some 8), none, false, .mov (.t 35)⟩])
 (.seq
 (.reg false [0, 1, 4, 8, 9] [⟨(some 36), none, false, .mov (.t 8)⟩,
 ⟨(some 37), none, true, .call 168 [(.t 36), (.k (.d (.int .u8 64)))]⟩,
 ⟨(some 38), none, false, .ia 1 (.t 37) (.k (.d (.int .i64 0)))⟩,
 ⟨(some 39), none, false, .ld none (.t 38)⟩,
 ⟨(some 9), none, false, .mov (.t 39)⟩])
 (.seq
 (.seq
 (.reg false [0, 1, 4, 8, 9, 44] [⟨(some 40), none, false, .mov (.t 9)⟩,
 ⟨(some 41), none, false, .len true (.t 40)⟩,
 ⟨(some 42), none, false, .mov (.t 8)⟩,
 ⟨(some 43), none, false, .len true (.t 42)⟩,
 ⟨(some 44), none, false, .bin .eql (.t 41) (.t 43)⟩])
 (.cond (.t 44)
 (.seq
 (.reg false [4, 5] [⟨(some 45), none, true, .bld (.cons (.str []) (.cons (.str []) .nil)) []⟩,
 ⟨none, none, true, .st 2 (.t 4) (.t 45)⟩,
 ⟨(some 5), none, false, .mov (.k (.d (.bool false)))⟩])
 .ret)
 .skip))
 (.seq
 (.reg false [0, 1, 4, 10] [⟨(some 46), none, false, .mov (.t 9)⟩,
 ⟨(some 47), none, false, .mov (.t 8)⟩,
 ⟨(some 48), none, false, .mov (.t 9)⟩,
 ⟨(some 49), none, false, .len true (.t 48)⟩,
 ⟨(some 50), none, false, .bin .add (.t 49) (.k (.d (.int .i64 1)))⟩,
 ⟨(some 51), none, false, .sls (.t 47) (some (.t 50)) none⟩,
 ⟨(some 52), none, true, .bld (.cons (.str []) (.cons (.str []) .nil)) [(0, (.t 46)), (1, (.t 51))]⟩,
 ⟨(some 10), none, true, .alloc (.st (.cons (.str []) (.cons (.str []) .nil)))⟩,
 ⟨none, none, true, .st 2 (.t 10) (.t 52)⟩])
 (.seq
 (.any [11, 12] [4, 5] (.q 0 ⟨(some 53), none, false, .ld (some 2) (.t 10)⟩ (.e 1 ⟨(some 54), none, false, .ld (some 2) (.t 10)⟩ (.e 2 ⟨(some 55), none, true, .call 192 [(.t 54)]⟩ (.q 3 ⟨(some 56), none, false, .mov (.t 55)⟩ (.q 4 ⟨(some 57), (some (56, true)), false, .mov (.t 1)⟩ (.q 7 ⟨(some 60), (some (56, true)), false, .mov (.t 0)⟩ (.q 8 ⟨(some 61), (some (56, true)), false, .bin .add (.t 60) (.k (.d (.str [10])))⟩ (.e 5 ⟨(some 58), (some (56, true)), false, .ld (some 2) (.t 10)⟩ (.e 6 ⟨(some 59), (some (56, true)), true, .call 193 [(.t 57), (.t 58)]⟩ (.q 9 ⟨(some 62), (some (56, true)), false, .bin .eql (.t 59) (.t 61)⟩ (.q 10 ⟨(some 63), none, false, .pick (.t 56) (.t 62) (.k (.d (.bool false)))⟩ (.e 11 ⟨none, none, true, .st 2 (.t 4) (.t 53)⟩ (.e 12 ⟨(some 5), none, false, .mov (.t 63)⟩ .done))))))))))))))
 .ret)))))))))
theorem c169 : (Go.Proofs.Tryz.f169).body.bind (comp prog.P (2, (Go.Proofs.Tryz.f169).ntmps) lv169) = some m169 := by kernel_rfl
theorem r169 : resOK prog.P (Go.Proofs.Tryz.f169).results.toList = true := by kernel_rfl

/-- impl.VerifyChecksum -/
def lv171 : List (Nat × List Nat) := [(0, [0]), (1, [0, 4]), (2, [0, 4, 7, 8]), (3, [4, 26]), (4, [2, 3]), (5, [2, 3])]
def m171 : MC :=
  (.seq
 (.reg false [0] [⟨(some 2), none, false, .mov (.k (.d (.str [])))⟩,
 ⟨(some 3), none, false, .mov (.k (.d (.bool false)))⟩])
 (.seq
 (.reg false [0, 4] [⟨(some 10), none, false, .mov (.t 0)⟩,
 ⟨(some 11), none, true, .call 170 [(.t 10), (.k (.d (.str [35])))]⟩,
 ⟨(some 9), none, false, .mov (.t 11)⟩,
 ⟨(some 12), none, false, .ext (.t 9) 0⟩,
 ⟨(some 13), none, false, .ext (.t 9) 1⟩,
 ⟨(some 14), none, false, .ext (.t 9) 2⟩,
 ⟨(some 4), none, false, .mov (.t 12)⟩,
 ⟨(some 5), none, false, .mov (.t 13)⟩,
 ⟨(some 6), none, false, .mov (.t 14)⟩])
 (.seq
 (.seq
 (.reg false [0, 4, 7, 8] [⟨(some 16), none, false, .mov (.t 4)⟩,
 ⟨(some 17), none, true, .call 195 [(.t 16)]⟩,
 ⟨(some 15), none, false, .mov (.t 17)⟩,
 ⟨(some 18), none, false, .ext (.t 15) 0⟩,
 ⟨(some 19), none, false, .ext (.t 15) 1⟩,
 ⟨(some 7), none, false, .mov (.t 18)⟩,
 ⟨(some 8), none, false, .mov (.t 19)⟩])
 (.seq
 (.reg false [4, 26] [⟨(some 20), none, false, .mov (.t 8)⟩,
 ⟨(some 21), none, false, .un .not (.t 20)⟩,
 ⟨(some 22), none, false, .mov (.t 21)⟩,
 ⟨(some 23), (some (22, false)), false, .mov (.t 7)⟩,
 ⟨(some 24), (some (22, false)), false, .mov (.t 0)⟩,
 ⟨(some 25), (some (22, false)), false, .bin .neq (.t 23) (.t 24)⟩,
 ⟨(some 26), none, false, .pick (.t 22) (.k (.d (.bool true))) (.t 25)⟩])
 (.cond (.t 26)
 (.seq
 (.reg false [2, 3] [⟨(some 2), none, false, .mov (.k (.d (.str [])))⟩,
 ⟨(some 3), none, false, .mov (.k (.d (.bool false)))⟩])
 .ret)
 .skip)))
 (.seq
 (.reg false [2, 3] [⟨(some 27), none, false, .mov (.t 4)⟩,
 ⟨(some 2), none, false, .mov (.t 27)⟩,
 ⟨(some 3), none, false, .mov (.k (.d (.bool true)))⟩])
 .ret))))
theorem c171 : (Go.Proofs.Tryz.f171).body.bind (comp prog.P (1, (Go.Proofs.Tryz.f171).ntmps) lv171) = some m171 := by kernel_rfl
theorem r171 : resOK prog.P (Go.Proofs.Tryz.f171).results.toList = true := by kernel_rfl

/-- impl.EncodeRecord -/
def lv172 : List (Nat × List Nat) := [(0, [0, 3]), (1, [0, 3, 15]), (2, [4, 5]), (3, [6, 7]), (4, [4, 5])]
def m172 : MC :=
  (.seq
 (.reg false [0, 3] [⟨(some 3), none, true, .box (.t 1)⟩,
 ⟨(some 4), none, false, .mov (.k (.d (.str [])))⟩,
 ⟨(some 5), none, false, .mov (.k (.d (.bool false)))⟩])
 (.seq
 (.seq
 (.reg false [0, 3, 15] [⟨(some 8), none, false, .mov (.t 0)⟩,
 ⟨(some 9), none, true, .call 72 [(.t 8), (.k (.d (.int .i64 0))), (.k (.d (.int .i64 59)))]⟩,
 ⟨(some 10), none, false, .un .not (.t 9)⟩,
 ⟨(some 11), none, false, .mov (.t 10)⟩,
 ⟨(some 12), (some (11, false)), false, .ld (some 2) (.t 3)⟩,
 ⟨(some 13), (some (11, false)), true, .call 196 [(.t 12)]⟩,
 ⟨(some 14), (some (11, false)), false, .un .not (.t 13)⟩,
 ⟨(some 15), none, false, .pick (.t 11) (.k (.d (.bool true))) (.t 14)⟩])
 (.cond (.t 15)
 (.seq
 (.reg false [4, 5] [⟨(some 4), none, false, .mov (.k (.d (.str [])))⟩,
 ⟨(some 5), none, false, .mov (.k (.d (.bool false)))⟩])
 .ret)
 .skip))
 (.seq
 (.reg true [6, 7] [⟨(some 17), none, false, .mov (.t 0)⟩,
 ⟨(some 18), none, false, .callP 63 [(.t 17)]⟩,
 ⟨(some 19), none, false, .bin .add (.t 18) (.k (.d (.str [32])))⟩,
 ⟨(some 20), none, false, .fa 0 0 (.t 3)⟩,
 ⟨(some 21), none, false, .ld none (.t 20)⟩,
 ⟨(some 22), none, false, .bin .add (.t 19) (.t 21)⟩,
 ⟨(some 23), none, false, .bin .add (.t 22) (.k (.d (.str [64])))⟩,
 ⟨(some 24), none, false, .fa 1 1 (.t 3)⟩,
 ⟨(some 25), none, false, .ld none (.t 24)⟩,
 ⟨(some 26), none, false, .bin .add (.t 23) (.t 25)⟩,
 ⟨(some 27), none, false, .callP 195 [(.t 26)]⟩,
 ⟨(some 16), none, false, .mov (.t 27)⟩,
 ⟨(some 28), none, false, .ext (.t 16) 0⟩,
 ⟨(some 29), none, false, .ext (.t 16) 1⟩,
 ⟨(some 6), none, false, .mov (.t 28)⟩,
 ⟨(some 7), none, false, .mov (.t 29)⟩])
 (.seq
 (.reg false [4, 5] [⟨(some 30), none, false, .mov (.t 6)⟩,
 ⟨(some 31), none, false, .bin .add (.t 30) (.k (.d (.str [10])))⟩,
 ⟨(some 32), none, false, .mov (.t 7)⟩,
 ⟨(some 4), none, false, .mov (.t 31)⟩,
 ⟨(some 5), none, false, .mov (.t 32)⟩])
 .ret))))
theorem c172 : (Go.Proofs.Tryz.f172).body.bind (comp prog.P (2, (Go.Proofs.Tryz.f172).ntmps) lv172) = some m172 := by kernel_rfl
theorem r172 : resOK prog.P (Go.Proofs.Tryz.f172).results.toList = true := by kernel_rfl

/-- spec.l15Letter -/
def lv177 : List (Nat × List Nat) := [(0, [0]), (1, [2])]
def m177 : MC :=
  (.seq
 (.reg false [0] [⟨(some 2), none, false, .mov (.k (.d (.bool false)))⟩])
 (.seq
 (.reg false [2] [⟨(some 3), none, false, .mov (.t 0)⟩,
 ⟨(some 4), none, false, .bin .geq (.t 3) (.k (.d (.int .u8 97)))⟩,
 ⟨(some 5), none, false, .mov (.t 4)⟩,
 ⟨(some 6), (some (5, true)), false, .mov (.t 0)⟩,
 ⟨(some 7), (some (5, true)), false, .bin .leq (.t 6) (.k (.d (.int .u8 122)))⟩,
 ⟨(some 8), none, false, .pick (.t 5) (.t 7) (.k (.d (.bool false)))⟩,
 ⟨(some 2), none, false, .mov (.t 8)⟩])
 .ret))
theorem c177 : (Go.Proofs.Tryz.f177).body.bind (comp prog.P (1, (Go.Proofs.Tryz.f177).ntmps) lv177) = some m177 := by kernel_rfl
theorem r177 : resOK prog.P (Go.Proofs.Tryz.f177).results.toList = true := by kernel_rfl

/-- strings.trimLeftASCII -/
def lv185 : List (Nat × List Nat) := [(0, [0, 1]), (1, [0, 1, 7]), (2, [0, 1, 12]), (3, [0, 1]), (4, [4])]
def m185 : MC :=
  (.seq
 (.reg false [0, 1] [⟨(some 4), none, false, .mov (.k (.d (.str [])))⟩])
 (.seq
 (.block 0
 (.loop
 (.seq
 (.seq
 (.reg false [0, 1, 7] [⟨(some 5), none, false, .mov (.t 0)⟩,
 ⟨(some 6), none, false, .len true (.t 5)⟩,
 ⟨(some 7), none, false, .bin .gtr (.t 6) (.k (.d (.int .i64 0)))⟩])
 (.cond (.t 7)
 .skip
 (.exit 0)))
 (.block 1
 (.seq
 (.seq
 (.reg false [0, 1, 12] [⟨(some 8), none, false, .mov (.t 1)⟩,
 ⟨(some 9), none, false, .mov (.t 0)⟩,
 ⟨(some 10), none, false, .ix (.t 9) (.k (.d (.int .i64 0)))⟩,
 ⟨(some 11), none, true, .call 215 [(.t 8), (.t 10)]⟩,
 ⟨(some 12), none, false, .un .not (.t 11)⟩])
 (.cond (.t 12)
 (.exit 0)
 .skip))
 (.reg false [0, 1] [⟨(some 13), none, false, .mov (.t 0)⟩,
 ⟨(some 14), none, false, .sls (.t 13) (some (.k (.d (.int .i64 1)))) none⟩,
 ⟨(some 0), none, false, .mov (.t 14)⟩]))))))
 (.seq
 (.reg false [4] [⟨(some 15), none, false, .mov (.t 0)⟩,
 ⟨(some 4), none, false, .mov (.t 15)⟩])
 .ret)))
theorem c185 : (Go.Proofs.Tryz.f185).body.bind (comp prog.P (0, (Go.Proofs.Tryz.f185).ntmps) lv185) = some m185 := by kernel_rfl
theorem r185 : resOK prog.P (Go.Proofs.Tryz.f185).results.toList = true := by kernel_rfl

/-- strings.trimRightASCII -/
def lv186 : List (Nat × List Nat) := [(0, [0, 1]), (1, [0, 1, 7]), (2, [0, 1, 15]), (3, [0, 1]), (4, [4])]
def m186 : MC :=
  (.seq
 (.reg false [0, 1] [⟨(some 4), none, false, .mov (.k (.d (.str [])))⟩])
 (.seq
 (.block 0
 (.loop
 (.seq
 (.seq
 (.reg false [0, 1, 7] [⟨(some 5), none, false, .mov (.t 0)⟩,
 ⟨(some 6), none, false, .len true (.t 5)⟩,
 ⟨(some 7), none, false, .bin .gtr (.t 6) (.k (.d (.int .i64 0)))⟩])
 (.cond (.t 7)
 .skip
 (.exit 0)))
 (.block 1
 (.seq
 (.seq
 (.reg false [0, 1, 15] [⟨(some 8), none, false, .mov (.t 1)⟩,
 ⟨(some 9), none, false, .mov (.t 0)⟩,
 ⟨(some 10), none, false, .mov (.t 0)⟩,
 ⟨(some 11), none, false, .len true (.t 10)⟩,
 ⟨(some 12), none, false, .bin .sub (.t 11) (.k (.d (.int .i64 1)))⟩,
 ⟨(some 13), none, false, .ix (.t 9) (.t 12)⟩,
 ⟨(some 14), none, true, .call 215 [(.t 8), (.t 13)]⟩,
 ⟨(some 15), none, false, .un .not (.t 14)⟩])
 (.cond (.t 15)
 (.exit 0)
 .skip))
 (.reg false [0, 1] [⟨(some 16), none, false, .mov (.t 0)⟩,
 ⟨(some 17), none, false, .mov (.t 0)⟩,
 ⟨(some 18), none, false, .len true (.t 17)⟩,
 ⟨(some 19), none, false, .bin .sub (.t 18) (.k (.d (.int .i64 1)))⟩,
 ⟨(some 20), none, false, .sls (.t 16) none (some (.t 19))⟩,
 ⟨(some 0), none, false, .mov (.t 20)⟩]))))))
 (.seq
 (.reg false [4] [⟨(some 21), none, false, .mov (.t 0)⟩,
 ⟨(some 4), none, false, .mov (.t 21)⟩])
 .ret)))
theorem c186 : (Go.Proofs.Tryz.f186).body.bind (comp prog.P (0, (Go.Proofs.Tryz.f186).ntmps) lv186) = some m186 := by kernel_rfl
theorem r186 : resOK prog.P (Go.Proofs.Tryz.f186).results.toList = true := by kernel_rfl

/-- spec.l1Sum -/
def lv191 : List (Nat × List Nat) := [(0, [0]), (1, [0, 3]), (2, [0, 3, 4]), (3, [0, 3, 4, 8]), (4, [0, 3, 4]), (5, [0, 3, 4]), (6, [2])]
def m191 : MC :=
  (.seq
 (.reg false [0] [⟨(some 2), none, false, .mov (.k (.d (.int .i64 0)))⟩])
 (.seq
 (.reg false [0, 3] [⟨(some 3), none, false, .mov (.k (.d (.int .i64 7)))⟩])
 (.seq
 (.seq
 (.reg false [0, 3, 4] [⟨(some 4), none, false, .mov (.k (.d (.int .i64 0)))⟩])
 (.block 0
 (.loop
 (.seq
 (.seq
 (.reg false [0, 3, 4, 8] [⟨(some 5), none, false, .mov (.t 4)⟩,
 ⟨(some 6), none, false, .mov (.t 0)⟩,
 ⟨(some 7), none, false, .len true (.t 6)⟩,
 ⟨(some 8), none, false, .bin .lss (.t 5) (.t 7)⟩])
 (.cond (.t 8)
 .skip
 (.exit 0)))
 (.seq
 (.block 1
 (.reg false [0, 3, 4] [⟨(some 11), none, false, .mov (.t 3)⟩,
 ⟨(some 12), none, false, .bin .mul (.k (.d (.int .i64 41))) (.t 11)⟩,
 ⟨(some 13), none, false, .mov (.t 0)⟩,
 ⟨(some 14), none, false, .mov (.t 4)⟩,
 ⟨(some 15), none, false, .ix (.t 13) (.t 14)⟩,
 ⟨(some 16), none, false, .conv .i64 (.t 15)⟩,
 ⟨(some 17), none, false, .bin .add (.t 12) (.t 16)⟩,
 ⟨(some 18), none, false, .bin .add (.t 17) (.k (.d (.int .i64 1)))⟩,
 ⟨(some 19), none, false, .bin .rem (.t 18) (.k (.d (.int .i64 999979)))⟩,
 ⟨(some 3), none, false, .mov (.t 19)⟩]))
 (.reg false [0, 3, 4] [⟨(some 9), none, false, .mov (.t 4)⟩,
 ⟨(some 10), none, false, .bin .add (.t 9) (.k (.d (.int .i64 1)))⟩,
 ⟨(some 4), none, false, .mov (.t 10)⟩]))))))
 (.seq
 (.reg false [2] [⟨(some 20), none, false, .mov (.t 3)⟩,
 ⟨(some 2), none, false, .mov (.t 20)⟩])
 .ret))))
theorem c191 : (Go.Proofs.Tryz.f191).body.bind (comp prog.P (1, (Go.Proofs.Tryz.f191).ntmps) lv191) = some m191 := by kernel_rfl
theorem r191 : resOK prog.P (Go.Proofs.Tryz.f191).results.toList = true := by kernel_rfl

/-- spec.l27Good -/
def lv192 : List (Nat × List Nat) := [(0, [1]), (1, [2])]
def m192 : MC :=
  (.seq
 (.reg false [1] [⟨(some 1), none, true, .box (.t 0)⟩,
 ⟨(some 2), none, false, .mov (.k (.d (.bool false)))⟩])
 (.seq
 (.reg false [2] [⟨(some 3), none, false, .fa 0 0 (.t 1)⟩,
 ⟨(some 4), none, false, .ld none (.t 3)⟩,
 ⟨(some 5), none, false, .bin .neq (.t 4) (.k (.d (.str [])))⟩,
 ⟨(some 6), none, false, .mov (.t 5)⟩,
 ⟨(some 7), (some (6, true)), false, .fa 0 0 (.t 1)⟩,
 ⟨(some 8), (some (6, true)), false, .ld none (.t 7)⟩,
 ⟨(some 9), (some (6, true)), true, .call 220 [(.t 8), (.k (.d (.int .i64 160)))]⟩,
 ⟨(some 10), none, false, .pick (.t 6) (.t 9) (.k (.d (.bool false)))⟩,
 ⟨(some 11), none, false, .mov (.t 10)⟩,
 ⟨(some 12), (some (11, true)), false, .fa 0 0 (.t 1)⟩,
 ⟨(some 13), (some (11, true)), false, .ld none (.t 12)⟩,
 ⟨(some 14), (some (11, true)), true, .call 221 [(.t 13), (.k (.d (.int .u8 64)))]⟩,
 ⟨(some 15), (some (11, true)), false, .un .not (.t 14)⟩,
 ⟨(some 16), none, false, .pick (.t 11) (.t 15) (.k (.d (.bool false)))⟩,
 ⟨(some 17), none, false, .mov (.t 16)⟩,
 ⟨(some 18), (some (17, true)), false, .fa 1 1 (.t 1)⟩,
 ⟨(some 19), (some (17, true)), false, .ld none (.t 18)⟩,
 ⟨(some 20), (some (17, true)), true, .call 220 [(.t 19), (.k (.d (.int .i64 200)))]⟩,
 ⟨(some 21), none, false, .pick (.t 17) (.t 20) (.k (.d (.bool false)))⟩,
 ⟨(some 2), none, false, .mov (.t 21)⟩])
 .ret))
theorem c192 : (Go.Proofs.Tryz.f192).body.bind (comp prog.P (1, (Go.Proofs.Tryz.f192).ntmps) lv192) = some m192 := by kernel_rfl
theorem r192 : resOK prog.P (Go.Proofs.Tryz.f192).results.toList = true := by kernel_rfl

/-- spec.l27Line -/
def lv193 : List (Nat × List Nat) := [(0, [0, 3]), (1, [4])]
def m193 : MC :=
  (.seq
 (.reg false [0, 3] [⟨(some 3), none, true, .box (.t 1)⟩,
 ⟨(some 4), none, false, .mov (.k (.d (.str [])))⟩])
 (.seq
 (.reg true [4] [⟨(some 5), none, false, .mov (.t 0)⟩,
 ⟨(some 6), none, false, .callP 61 [(.t 5)]⟩,
 ⟨(some 7), none, false, .bin .add (.t 6) (.k (.d (.str [32])))⟩,
 ⟨(some 8), none, false, .fa 0 0 (.t 3)⟩,
 ⟨(some 9), none, false, .ld none (.t 8)⟩,
 ⟨(some 10), none, false, .bin .add (.t 7) (.t 9)⟩,
 ⟨(some 11), none, false, .bin .add (.t 10) (.k (.d (.str [64])))⟩,
 ⟨(some 12), none, false, .fa 1 1 (.t 3)⟩,
 ⟨(some 13), none, false, .ld none (.t 12)⟩,
 ⟨(some 14), none, false, .bin .add (.t 11) (.t 13)⟩,
 ⟨(some 15), none, false, .callP 222 [(.t 14)]⟩,
 ⟨(some 16), none, false, .bin .add (.t 15) (.k (.d (.str [10])))⟩,
 ⟨(some 4), none, false, .mov (.t 16)⟩])
 .ret))
theorem c193 : (Go.Proofs.Tryz.f193).body.bind (comp prog.P (2, (Go.Proofs.Tryz.f193).ntmps) lv193) = some m193 := by kernel_rfl
theorem r193 : resOK prog.P (Go.Proofs.Tryz.f193).results.toList = true := by kernel_rfl

/-- impl.AppendChecksum -/
def lv195 : List (Nat × List Nat) := [(0, [0]), (1, [0, 11]), (2, [2, 3]), (3, [4]), (4, [4, 20]), (5, [2, 3]), (6, [2, 3])]
def m195 : MC :=
  (.seq
 (.reg false [0] [⟨(some 2), none, false, .mov (.k (.d (.str [])))⟩,
 ⟨(some 3), none, false, .mov (.k (.d (.bool false)))⟩])
 (.seq
 (.seq
 (.reg false [0, 11] [⟨(some 5), none, false, .mov (.t 0)⟩,
 ⟨(some 6), none, false, .len true (.t 5)⟩,
 ⟨(some 7), none, false, .bin .gtr (.t 6) (.k (.d (.int .i64 4000)))⟩,
 ⟨(some 8), none, false, .mov (.t 7)⟩,
 ⟨(some 9), (some (8, false)), false, .mov (.t 0)⟩,
 ⟨(some 10), (some (8, false)), true, .call 224 [(.t 9), (.k (.d (.str [35])))]⟩,
 ⟨(some 11), none, false, .pick (.t 8) (.k (.d (.bool true))) (.t 10)⟩])
 (.cond (.t 11)
 (.seq
 (.reg false [2, 3] [⟨(some 2), none, false, .mov (.k (.d (.str [])))⟩,
 ⟨(some 3), none, false, .mov (.k (.d (.bool false)))⟩])
 .ret)
 .skip))
 (.seq
 (.reg false [4] [⟨(some 12), none, false, .mov (.t 0)⟩,
 ⟨(some 13), none, false, .bin .add (.t 12) (.k (.d (.str [35])))⟩,
 ⟨(some 14), none, false, .mov (.t 0)⟩,
 ⟨(some 15), none, true, .call 219 [(.t 14)]⟩,
 ⟨(some 16), none, true, .call 63 [(.t 15)]⟩,
 ⟨(some 17), none, false, .bin .add (.t 13) (.t 16)⟩,
 ⟨(some 4), none, false, .mov (.t 17)⟩])
 (.seq
 (.seq
 (.reg false [4, 20] [⟨(some 18), none, false, .mov (.t 4)⟩,
 ⟨(some 19), none, false, .len true (.t 18)⟩,
 ⟨(some 20), none, false, .bin .gtr (.t 19) (.k (.d (.int .i64 4000)))⟩])
 (.cond (.t 20)
 (.seq
 (.reg false [2, 3] [⟨(some 2), none, false, .mov (.k (.d (.str [])))⟩,
 ⟨(some 3), none, false, .mov (.k (.d (.bool false)))⟩])
 .ret)
 .skip))
 (.seq
 (.reg false [2, 3] [⟨(some 21), none, false, .mov (.t 4)⟩,
 ⟨(some 2), none, false, .mov (.t 21)⟩,
 ⟨(some 3), none, false, .mov (.k (.d (.bool true)))⟩])
 .ret)))))
theorem c195 : (Go.Proofs.Tryz.f195).body.bind (comp prog.P (1, (Go.Proofs.Tryz.f195).ntmps) lv195) = some m195 := by kernel_rfl
theorem r195 : resOK prog.P (Go.Proofs.Tryz.f195).results.toList = true := by kernel_rfl

/-- impl.IsValidRecord -/
def lv196 : List (Nat × List Nat) := [(0, [1]), (1, [2])]
def m196 : MC :=
  (.seq
 (.reg false [1] [⟨(some 1), none, true, .box (.t 0)⟩,
 ⟨(some 2), none, false, .mov (.k (.d (.bool false)))⟩])
 (.seq
 (.reg false [2] [⟨(some 3), none, false, .fa 0 0 (.t 1)⟩,
 ⟨(some 4), none, false, .ld none (.t 3)⟩,
 ⟨(some 5), none, false, .len true (.t 4)⟩,
 ⟨(some 6), none, true, .call 72 [(.t 5), (.k (.d (.int .i64 1))), (.k (.d (.int .i64 160)))]⟩,
 ⟨(some 7), none, false, .mov (.t 6)⟩,
 ⟨(some 8), (some (7, true)), false, .fa 1 1 (.t 1)⟩,
 ⟨(some 9), (some (7, true)), false, .ld none (.t 8)⟩,
 ⟨(some 10), (some (7, true)), false, .len true (.t 9)⟩,
 ⟨(some 11), (some (7, true)), false, .bin .leq (.t 10) (.k (.d (.int .i64 200)))⟩,
 ⟨(some 12), none, false, .pick (.t 7) (.t 11) (.k (.d (.bool false)))⟩,
 ⟨(some 13), none, false, .mov (.t 12)⟩,
 ⟨(some 14), (some (13, true)), false, .fa 0 0 (.t 1)⟩,
 ⟨(some 15), (some (13, true)), false, .ld none (.t 14)⟩,
 ⟨(some 16), (some (13, true)), true, .call 225 [(.t 15)]⟩,
 ⟨(some 17), none, false, .pick (.t 13) (.t 16) (.k (.d (.bool false)))⟩,
 ⟨(some 18), none, false, .mov (.t 17)⟩,
 ⟨(some 19), (some (18, true)), false, .fa 1 1 (.t 1)⟩,
 ⟨(some 20), (some (18, true)), false, .ld none (.t 19)⟩,
 ⟨(some 21), (some (18, true)), true, .call 225 [(.t 20)]⟩,
 ⟨(some 22), none, false, .pick (.t 18) (.t 21) (.k (.d (.bool false)))⟩,
 ⟨(some 23), none, false, .mov (.t 22)⟩,
 ⟨(some 24), (some (23, true)), false, .fa 0 0 (.t 1)⟩,
 ⟨(some 25), (some (23, true)), false, .ld none (.t 24)⟩,
 ⟨(some 26), (some (23, true)), true, .call 224 [(.t 25), (.k (.d (.str [64])))]⟩,
 ⟨(some 27), (some (23, true)), false, .un .not (.t 26)⟩,
 ⟨(some 28), none, false, .pick (.t 23) (.t 27) (.k (.d (.bool false)))⟩,
 ⟨(some 2), none, false, .mov (.t 28)⟩])
 .ret))
theorem c196 : (Go.Proofs.Tryz.f196).body.bind (comp prog.P (1, (Go.Proofs.Tryz.f196).ntmps) lv196) = some m196 := by kernel_rfl
theorem r196 : resOK prog.P (Go.Proofs.Tryz.f196).results.toList = true := by kernel_rfl

/-- (*strings.asciiSet).contains -/
def lv215 : List (Nat × List Nat) := [(0, [0, 1]), (1, [0, 4])]
def m215 : MC :=
  (.seq
 (.reg false [0, 1] [⟨(some 4), none, false, .mov (.k (.d (.bool false)))⟩])
 (.seq
 (.reg false [0, 4] [⟨(some 5), none, false, .mov (.t 0)⟩,
 ⟨(some 6), none, false, .mov (.t 1)⟩,
 ⟨(some 7), none, false, .nck (.t 5)⟩,
 ⟨(some 8), none, false, .iar 256 1 (.t 7) (.t 6)⟩,
 ⟨(some 9), none, false, .ld none (.t 8)⟩,
 ⟨(some 4), none, false, .mov (.t 9)⟩])
 .ret))
theorem c215 : (Go.Proofs.Tryz.f215).body.bind (comp prog.P (2, (Go.Proofs.Tryz.f215).ntmps) lv215) = some m215 := by kernel_rfl
theorem r215 : resOK prog.P (Go.Proofs.Tryz.f215).results.toList = true := by kernel_rfl

/-- impl.checksum -/
def lv219 : List (Nat × List Nat) := [(0, [0]), (1, [0, 3]), (2, [0, 3, 6, 7]), (3, [0, 3, 6, 7, 8]), (4, [0, 3, 4, 6, 7]), (5, [0, 3, 6, 7]), (6, [0, 3, 6, 7]), (7, [2])]
def m219 : MC :=
  (.seq
 (.reg false [0] [⟨(some 2), none, false, .mov (.k (.d (.int .i64 0)))⟩])
 (.seq
 (.reg false [0, 3] [⟨(some 3), none, false, .mov (.k (.d (.int .i64 7)))⟩])
 (.seq
 (.seq
 (.reg false [0, 3, 6, 7] [⟨(some 5), none, false, .mov (.t 0)⟩,
 ⟨(some 6), none, false, .len true (.t 5)⟩,
 ⟨(some 7), none, false, .mov (.k (.d (.int .i64 0)))⟩])
 (.block 0
 (.loop
 (.seq
 (.reg false [0, 3, 6, 7, 8] [⟨(some 8), none, false, .bin .lss (.t 7) (.t 6)⟩])
 (.seq
 (.cond (.t 8)
 .skip
 (.exit 0))
 (.seq
 (.block 1
 (.seq
 (.reg false [0, 3, 4, 6, 7] [⟨(some 9), none, false, .mov (.t 7)⟩,
 ⟨(some 4), none, false, .mov (.t 9)⟩])
 (.reg false [0, 3, 6, 7] [⟨(some 10), none, false, .mov (.t 3)⟩,
 ⟨(some 11), none, false, .bin .mul (.k (.d (.int .i64 41))) (.t 10)⟩,
 ⟨(some 12), none, false, .mov (.t 0)⟩,
 ⟨(some 13), none, false, .mov (.t 4)⟩,
 ⟨(some 14), none, false, .ix (.t 12) (.t 13)⟩,
 ⟨(some 15), none, false, .conv .i64 (.t 14)⟩,
 ⟨(some 16), none, false, .bin .add (.t 11) (.t 15)⟩,
 ⟨(some 17), none, false, .bin .add (.t 16) (.k (.d (.int .i64 1)))⟩,
 ⟨(some 18), none, false, .bin .rem (.t 17) (.k (.d (.int .i64 999979)))⟩,
 ⟨(some 3), none, false, .mov (.t 18)⟩])))
 (.reg false [0, 3, 6, 7] [⟨(some 19), none, false, .bin .add (.t 7) (.k (.d (.int .i64 1)))⟩,
 ⟨(some 7), none, false, .mov (.t 19)⟩])))))))
 (.seq
 (.reg false [2] [⟨(some 20), none, false, .mov (.t 3)⟩,
 ⟨(some 2), none, false, .mov (.t 20)⟩])
 .ret))))
theorem c219 : (Go.Proofs.Tryz.f219).body.bind (comp prog.P (1, (Go.Proofs.Tryz.f219).ntmps) lv219) = some m219 := by kernel_rfl
theorem r219 : resOK prog.P (Go.Proofs.Tryz.f219).results.toList = true := by kernel_rfl

/-- spec.l27Plain -/
def lv220 : List (Nat × List Nat) := [(0, [0, 1]), (1, [0, 1, 5]), (2, [0, 1, 5, 9]), (3, [0, 1, 5]), (4, [0, 1, 5, 23]), (5, [4]), (6, [4])]
def m220 : MC :=
  (.seq
 (.reg false [0, 1] [⟨(some 4), none, false, .mov (.k (.d (.bool false)))⟩])
 (.seq
 (.seq
 (.reg false [0, 1, 5] [⟨(some 5), none, false, .mov (.k (.d (.int .i64 0)))⟩])
 (.block 0
 (.loop
 (.seq
 (.seq
 (.reg false [0, 1, 5, 9] [⟨(some 6), none, false, .mov (.t 5)⟩,
 ⟨(some 7), none, false, .mov (.t 0)⟩,
 ⟨(some 8), none, false, .len true (.t 7)⟩,
 ⟨(some 9), none, false, .bin .lss (.t 6) (.t 8)⟩])
 (.cond (.t 9)
 .skip
 (.exit 0)))
 (.seq
 (.block 1
 (.seq
 (.reg false [0, 1, 5, 23] [⟨(some 12), none, false, .mov (.t 0)⟩,
 ⟨(some 13), none, false, .mov (.t 5)⟩,
 ⟨(some 14), none, false, .ix (.t 12) (.t 13)⟩,
 ⟨(some 15), none, false, .conv .i64 (.t 14)⟩,
 ⟨(some 16), none, true, .call 101 [(.t 15), (.k (.d (.int .i64 32))), (.k (.d (.int .i64 126)))]⟩,
 ⟨(some 17), none, false, .un .not (.t 16)⟩,
 ⟨(some 18), none, false, .mov (.t 17)⟩,
 ⟨(some 19), (some (18, false)), false, .mov (.t 0)⟩,
 ⟨(some 20), (some (18, false)), false, .mov (.t 5)⟩,
 ⟨(some 21), (some (18, false)), false, .ix (.t 19) (.t 20)⟩,
 ⟨(some 22), (some (18, false)), false, .bin .eql (.t 21) (.k (.d (.int .u8 35)))⟩,
 ⟨(some 23), none, false, .pick (.t 18) (.k (.d (.bool true))) (.t 22)⟩])
 (.cond (.t 23)
 (.seq
 (.reg false [4] [⟨(some 4), none, false, .mov (.k (.d (.bool false)))⟩])
 .ret)
 .skip)))
 (.reg false [0, 1, 5] [⟨(some 10), none, false, .mov (.t 5)⟩,
 ⟨(some 11), none, false, .bin .add (.t 10) (.k (.d (.int .i64 1)))⟩,
 ⟨(some 5), none, false, .mov (.t 11)⟩]))))))
 (.seq
 (.reg false [4] [⟨(some 24), none, false, .mov (.t 0)⟩,
 ⟨(some 25), none, false, .len true (.t 24)⟩,
 ⟨(some 26), none, false, .mov (.t 1)⟩,
 ⟨(some 27), none, false, .bin .leq (.t 25) (.t 26)⟩,
 ⟨(some 4), none, false, .mov (.t 27)⟩])
 .ret)))
theorem c220 : (Go.Proofs.Tryz.f220).body.bind (comp prog.P (2, (Go.Proofs.Tryz.f220).ntmps) lv220) = some m220 := by kernel_rfl
theorem r220 : resOK prog.P (Go.Proofs.Tryz.f220).results.toList = true := by kernel_rfl

/-- spec.l1Stands -/
def lv221 : List (Nat × List Nat) := [(0, [0, 1]), (1, [0, 1, 5]), (2, [0, 1, 5, 9]), (3, [0, 1, 5]), (4, [0, 1, 5, 16]), (5, [4]), (6, [4])]
def m221 : MC :=
  (.seq
 (.reg false [0, 1] [⟨(some 4), none, false, .mov (.k (.d (.bool false)))⟩])
 (.seq
 (.seq
 (.reg false [0, 1, 5] [⟨(some 5), none, false, .mov (.k (.d (.int .i64 0)))⟩])
 (.block 0
 (.loop
 (.seq
 (.seq
 (.reg false [0, 1, 5, 9] [⟨(some 6), none, false, .mov (.t 5)⟩,
 ⟨(some 7), none, false, .mov (.t 0)⟩,
 ⟨(some 8), none, false, .len true (.t 7)⟩,
 ⟨(some 9), none, false, .bin .lss (.t 6) (.t 8)⟩])
 (.cond (.t 9)
 .skip
 (.exit 0)))
 (.seq
 (.block 1
 (.seq
 (.reg false [0, 1, 5, 16] [⟨(some 12), none, false, .mov (.t 0)⟩,
 ⟨(some 13), none, false, .mov (.t 5)⟩,
 ⟨(some 14), none, false, .ix (.t 12) (.t 13)⟩,
 ⟨(some 15), none, false, .mov (.t 1)⟩,
 ⟨(some 16), none, false, .bin .eql (.t 14) (.t 15)⟩])
 (.cond (.t 16)
 (.seq
 (.reg false [4] [⟨(some 4), none, false, .mov (.k (.d (.bool true)))⟩])
 .ret)
 .skip)))
 (.reg false [0, 1, 5] [⟨(some 10), none, false, .mov (.t 5)⟩,
 ⟨(some 11), none, false, .bin .add (.t 10) (.k (.d (.int .i64 1)))⟩,
 ⟨(some 5), none, false, .mov (.t 11)⟩]))))))
 (.seq
 (.reg false [4] [⟨(some 4), none, false, .mov (.k (.d (.bool false)))⟩])
 .ret)))
theorem c221 : (Go.Proofs.Tryz.f221).body.bind (comp prog.P (2, (Go.Proofs.Tryz.f221).ntmps) lv221) = some m221 := by kernel_rfl
theorem r221 : resOK prog.P (Go.Proofs.Tryz.f221).results.toList = true := by kernel_rfl

/-- spec.l1Seal -/
def lv222 : List (Nat × List Nat) := [(0, [0]), (1, [2])]
def m222 : MC :=
  (.seq
 (.reg false [0] [⟨(some 2), none, false, .mov (.k (.d (.str [])))⟩])
 (.seq
 (.reg false [2] [⟨(some 3), none, false, .mov (.t 0)⟩,
 ⟨(some 4), none, false, .bin .add (.t 3) (.k (.d (.str [35])))⟩,
 ⟨(some 5), none, false, .mov (.t 0)⟩,
 ⟨(some 6), none, true, .call 191 [(.t 5)]⟩,
 ⟨(some 7), none, true, .call 61 [(.t 6)]⟩,
 ⟨(some 8), none, false, .bin .add (.t 4) (.t 7)⟩,
 ⟨(some 2), none, false, .mov (.t 8)⟩])
 .ret))
theorem c222 : (Go.Proofs.Tryz.f222).body.bind (comp prog.P (1, (Go.Proofs.Tryz.f222).ntmps) lv222) = some m222 := by kernel_rfl
theorem r222 : resOK prog.P (Go.Proofs.Tryz.f222).results.toList = true := by kernel_rfl

/-- impl.isPlain -/
def lv225 : List (Nat × List Nat) := [(0, [0]), (1, [0, 5, 6]), (2, [0, 5, 6, 7]), (3, [0, 3, 5, 6]), (4, [0, 5, 6, 24]), (5, [2]), (6, [0, 5, 6]), (7, [2])]
def m225 : MC :=
  (.seq
 (.reg false [0] [⟨(some 2), none, false, .mov (.k (.d (.bool false)))⟩])
 (.seq
 (.seq
 (.reg false [0, 5, 6] [⟨(some 4), none, false, .mov (.t 0)⟩,
 ⟨(some 5), none, false, .len true (.t 4)⟩,
 ⟨(some 6), none, false, .mov (.k (.d (.int .i64 0)))⟩])
 (.block 0
 (.loop
 (.seq
 (.reg false [0, 5, 6, 7] [⟨(some 7), none, false, .bin .lss (.t 6) (.t 5)⟩])
 (.seq
 (.cond (.t 7)
 .skip
 (.exit 0))
 (.seq
 (.block 1
 (.seq
 (.reg false [0, 3, 5, 6] [⟨(some 8), none, false, .mov (.t 6)⟩,
 ⟨(some 3), none, false, .mov (.t 8)⟩])
 (.seq
 (.reg false [0, 5, 6, 24] [⟨(some 9), none, false, .mov (.t 0)⟩,
 ⟨(some 10), none, false, .mov (.t 3)⟩,
 ⟨(some 11), none, false, .ix (.t 9) (.t 10)⟩,
 ⟨(some 12), none, false, .bin .lss (.t 11) (.k (.d (.int .u8 32)))⟩,
 ⟨(some 13), none, false, .mov (.t 12)⟩,
 ⟨(some 14), (some (13, false)), false, .mov (.t 0)⟩,
 ⟨(some 15), (some (13, false)), false, .mov (.t 3)⟩,
 ⟨(some 16), (some (13, false)), false, .ix (.t 14) (.t 15)⟩,
 ⟨(some 17), (some (13, false)), false, .bin .gtr (.t 16) (.k (.d (.int .u8 126)))⟩,
 ⟨(some 18), none, false, .pick (.t 13) (.k (.d (.bool true))) (.t 17)⟩,
 ⟨(some 19), none, false, .mov (.t 18)⟩,
 ⟨(some 20), (some (19, false)), false, .mov (.t 0)⟩,
 ⟨(some 21), (some (19, false)), false, .mov (.t 3)⟩,
 ⟨(some 22), (some (19, false)), false, .ix (.t 20) (.t 21)⟩,
 ⟨(some 23), (some (19, false)), false, .bin .eql (.t 22) (.k (.d (.int .u8 35)))⟩,
 ⟨(some 24), none, false, .pick (.t 19) (.k (.d (.bool true))) (.t 23)⟩])
 (.cond (.t 24)
 (.seq
 (.reg false [2] [⟨(some 2), none, false, .mov (.k (.d (.bool false)))⟩])
 .ret)
 .skip))))
 (.reg false [0, 5, 6] [⟨(some 25), none, false, .bin .add (.t 6) (.k (.d (.int .i64 1)))⟩,
 ⟨(some 6), none, false, .mov (.t 25)⟩])))))))
 (.seq
 (.reg false [2] [⟨(some 2), none, false, .mov (.k (.d (.bool true)))⟩])
 .ret)))
theorem c225 : (Go.Proofs.Tryz.f225).body.bind (comp prog.P (1, (Go.Proofs.Tryz.f225).ntmps) lv225) = some m225 := by kernel_rfl
theorem r225 : resOK prog.P (Go.Proofs.Tryz.f225).results.toList = true := by kernel_rfl

end Go.Pe.Tryz
