/-
The compact code of the functions that the law reaches, printed by gen.py, each with the proof that the machine's code is compiled to it.
-/
import Derived.Test.YtmklnnagndckpaaGreatDoorMc1
import Derived.Test.YtmklnnagndckpaaGreatDoorProg
import Derived.KernelRfl
set_option maxRecDepth 100000
namespace Go.Pe.Tryz
open Go.Pe

/-- spec.l27Good -/
def lv192 : List (Nat × List Nat) := [(0, [1]), (1, [2])]
def m192 : MC :=
  (.seq
 (.reg false [1] [⟨(some 1), none, true, .box (.t 0)⟩,
 ⟨(some 2), none, false, .mov (.k (.d (.bool false)))⟩])
 (.seq
 (.reg false [2] [⟨(some 3), none, false, .fa 0 0 (.t 1)⟩,
 ⟨(some 4), none, false, .ld none (.t 3)⟩,
 ⟨(some 5), none, false, .bin .neq (.t 4) (.k (.d (.str [])))⟩,
 ⟨(some 6), none, false, .mov (.t 5)⟩,
 ⟨(some 7), (some (6, true)), false, .fa 0 0 (.t 1)⟩,
 ⟨(some 8), (some (6, true)), false, .ld none (.t 7)⟩,
 ⟨(some 9), (some (6, true)), true, .call 220 [(.t 8), (.k (.d (.int .i64 160)))]⟩,
 ⟨(some 10), none, false, .pick (.t 6) (.t 9) (.k (.d (.bool false)))⟩,
 ⟨(some 11), none, false, .mov (.t 10)⟩,
 ⟨(some 12), (some (11, true)), false, .fa 0 0 (.t 1)⟩,
 ⟨(some 13), (some (11, true)), false, .ld none (.t 12)⟩,
 ⟨(some 14), (some (11, true)), true, .call 221 [(.t 13), (.k (.d (.int .u8 64)))]⟩,
 ⟨(some 15), (some (11, true)), false, .un .not (.t 14)⟩,
 ⟨(some 16), none, false, .pick (.t 11) (.t 15) (.k (.d (.bool false)))⟩,
 ⟨(some 17), none, false, .mov (.t 16)⟩,
 ⟨(some 18), (some (17, true)), false, .fa 1 1 (.t 1)⟩,
 ⟨(some 19), (some (17, true)), false, .ld none (.t 18)⟩,
 ⟨(some 20), (some (17, true)), true, .call 220 [(.t 19), (.k (.d (.int .i64 200)))]⟩,
 ⟨(some 21), none, false, .pick (.t 17) (.t 20) (.k (.d (.bool false)))⟩,
 ⟨(some 2), none, false, .mov (.t 21)⟩])
 .ret))
theorem c192 : (Go.Proofs.Tryz.f192).body.bind (comp prog.P (1, (Go.Proofs.Tryz.f192).ntmps) lv192) = some m192 := by kernel_rfl
theorem r192 : resOK prog.P (Go.Proofs.Tryz.f192).results.toList = true := by kernel_rfl

/-- spec.l27Line -/
def lv193 : List (Nat × List Nat) := [(0, [0, 3]), (1, [4])]
def m193 : MC :=
  (.seq
 (.reg false [0, 3] [⟨(some 3), none, true, .box (.t 1)⟩,
 ⟨(some 4), none, false, .mov (.k (.d (.str [])))⟩])
 (.seq
 (.reg true [4] [⟨(some 5), none, false, .mov (.t 0)⟩,
 ⟨(some 6), none, false, .callP 61 [(.t 5)]⟩,
 ⟨(some 7), none, false, .bin .add (.t 6) (.k (.d (.str [32])))⟩,
 ⟨(some 8), none, false, .fa 0 0 (.t 3)⟩,
 ⟨(some 9), none, false, .ld none (.t 8)⟩,
 ⟨(some 10), none, false, .bin .add (.t 7) (.t 9)⟩,
 ⟨(some 11), none, false, .bin .add (.t 10) (.k (.d (.str [64])))⟩,
 ⟨(some 12), none, false, .fa 1 1 (.t 3)⟩,
 ⟨(some 13), none, false, .ld none (.t 12)⟩,
 ⟨(some 14), none, false, .bin .add (.t 11) (.t 13)⟩,
 ⟨(some 15), none, false, .callP 222 [(.t 14)]⟩,
 ⟨(some 16), none, false, .bin .add (.t 15) (.k (.d (.str [10])))⟩,
 ⟨(some 4), none, false, .mov (.t 16)⟩])
 .ret))
theorem c193 : (Go.Proofs.Tryz.f193).body.bind (comp prog.P (2, (Go.Proofs.Tryz.f193).ntmps) lv193) = some m193 := by kernel_rfl
theorem r193 : resOK prog.P (Go.Proofs.Tryz.f193).results.toList = true := by kernel_rfl

/-- impl.AppendChecksum -/
def lv195 : List (Nat × List Nat) := [(0, [0]), (1, [0, 11]), (2, [2, 3]), (3, [4]), (4, [4, 20]), (5, [2, 3]), (6, [2, 3])]
def m195 : MC :=
  (.seq
 (.reg false [0] [⟨(some 2), none, false, .mov (.k (.d (.str [])))⟩,
 ⟨(some 3), none, false, .mov (.k (.d (.bool false)))⟩])
 (.seq
 (.seq
 (.reg false [0, 11] [⟨(some 5), none, false, .mov (.t 0)⟩,
 ⟨(some 6), none, false, .len true (.t 5)⟩,
 ⟨(some 7), none, false, .bin .gtr (.t 6) (.k (.d (.int .i64 4000)))⟩,
 ⟨(some 8), none, false, .mov (.t 7)⟩,
 ⟨(some 9), (some (8, false)), false, .mov (.t 0)⟩,
 ⟨(some 10), (some (8, false)), true, .call 224 [(.t 9), (.k (.d (.str [35])))]⟩,
 ⟨(some 11), none, false, .pick (.t 8) (.k (.d (.bool true))) (.t 10)⟩])
 (.cond (.t 11)
 (.seq
 (.reg false [2, 3] [⟨(some 2), none, false, .mov (.k (.d (.str [])))⟩,
 ⟨(some 3), none, false, .mov (.k (.d (.bool false)))⟩])
 .ret)
 .skip))
 (.seq
 (.reg false [4] [⟨(some 12), none, false, .mov (.t 0)⟩,
 ⟨(some 13), none, false, .bin .add (.t 12) (.k (.d (.str [35])))⟩,
 ⟨(some 14), none, false, .mov (.t 0)⟩,
 ⟨(some 15), none, true, .call 219 [(.t 14)]⟩,
 ⟨(some 16), none, true, .call 63 [(.t 15)]⟩,
 ⟨(some 17), none, false, .bin .add (.t 13) (.t 16)⟩,
 ⟨(some 4), none, false, .mov (.t 17)⟩])
 (.seq
 (.seq
 (.reg false [4, 20] [⟨(some 18), none, false, .mov (.t 4)⟩,
 ⟨(some 19), none, false, .len true (.t 18)⟩,
 ⟨(some 20), none, false, .bin .gtr (.t 19) (.k (.d (.int .i64 4000)))⟩])
 (.cond (.t 20)
 (.seq
 (.reg false [2, 3] [⟨(some 2), none, false, .mov (.k (.d (.str [])))⟩,
 ⟨(some 3), none, false, .mov (.k (.d (.bool false)))⟩])
 .ret)
 .skip))
 (.seq
 (.reg false [2, 3] [⟨(some 21), none, false, .mov (.t 4)⟩,
 ⟨(some 2), none, false, .mov (.t 21)⟩,
 ⟨(some 3), none, false, .mov (.k (.d (.bool true)))⟩])
 .ret)))))
theorem c195 : (Go.Proofs.Tryz.f195).body.bind (comp prog.P (1, (Go.Proofs.Tryz.f195).ntmps) lv195) = some m195 := by kernel_rfl
theorem r195 : resOK prog.P (Go.Proofs.Tryz.f195).results.toList = true := by kernel_rfl

/-- impl.IsValidRecord -/
def lv196 : List (Nat × List Nat) := [(0, [1]), (1, [2])]
def m196 : MC :=
  (.seq
 (.reg false [1] [⟨(some 1), none, true, .box (.t 0)⟩,
 ⟨(some 2), none, false, .mov (.k (.d (.bool false)))⟩])
 (.seq
 (.reg false [2] [⟨(some 3), none, false, .fa 0 0 (.t 1)⟩,
 ⟨(some 4), none, false, .ld none (.t 3)⟩,
 ⟨(some 5), none, false, .len true (.t 4)⟩,
 ⟨(some 6), none, true, .call 72 [(.t 5), (.k (.d (.int .i64 1))), (.k (.d (.int .i64 160)))]⟩,
 ⟨(some 7), none, false, .mov (.t 6)⟩,
 ⟨(some 8), (some (7, true)), false, .fa 1 1 (.t 1)⟩,
 ⟨(some 9), (some (7, true)), false, .ld none (.t 8)⟩,
 ⟨(some 10), (some (7, true)), false, .len true (.t 9)⟩,
 ⟨(some 11), (some (7, true)), false, .bin .leq (.t 10) (.k (.d (.int .i64 200)))⟩,
 ⟨(some 12), none, false, .pick (.t 7) (.t 11) (.k (.d (.bool false)))⟩,
 ⟨(some 13), none, false, .mov (.t 12)⟩,
 ⟨(some 14), (some (13, true)), false, .fa 0 0 (.t 1)⟩,
 ⟨(some 15), (some (13, true)), false, .ld none (.t 14)⟩,
 ⟨(some 16), (some (13, true)), true, .call 225 [(.t 15)]⟩,
 ⟨(some 17), none, false, .pick (.t 13) (.t 16) (.k (.d (.bool false)))⟩,
 ⟨(some 18), none, false, .mov (.t 17)⟩,
 ⟨(some 19), (some (18, true)), false, .fa 1 1 (.t 1)⟩,
 ⟨(some 20), (some (18, true)), false, .ld none (.t 19)⟩,
 ⟨(some 21), (some (18, true)), true, .call 225 [(.t 20)]⟩,
 ⟨(some 22), none, false, .pick (.t 18) (.t 21) (.k (.d (.bool false)))⟩,
 ⟨(some 23), none, false, .mov (.t 22)⟩,
 ⟨(some 24), (some (23, true)), false, .fa 0 0 (.t 1)⟩,
 ⟨(some 25), (some (23, true)), false, .ld none (.t 24)⟩,
 ⟨(some 26), (some (23, true)), true, .call 224 [(.t 25), (.k (.d (.str [64])))]⟩,
 ⟨(some 27), (some (23, true)), false, .un .not (.t 26)⟩,
 ⟨(some 28), none, false, .pick (.t 23) (.t 27) (.k (.d (.bool false)))⟩,
 ⟨(some 2), none, false, .mov (.t 28)⟩])
 .ret))
theorem c196 : (Go.Proofs.Tryz.f196).body.bind (comp prog.P (1, (Go.Proofs.Tryz.f196).ntmps) lv196) = some m196 := by kernel_rfl
theorem r196 : resOK prog.P (Go.Proofs.Tryz.f196).results.toList = true := by kernel_rfl

/-- (*strings.asciiSet).contains -/
def lv215 : List (Nat × List Nat) := [(0, [0, 1]), (1, [0, 4])]
def m215 : MC :=
  (.seq
 (.reg false [0, 1] [⟨(some 4), none, false, .mov (.k (.d (.bool false)))⟩])
 (.seq
 (.reg false [0, 4] [⟨(some 5), none, false, .mov (.t 0)⟩,
 ⟨(some 6), none, false, .mov (.t 1)⟩,
 ⟨(some 7), none, false, .nck (.t 5)⟩,
 ⟨(some 8), none, false, .iar 256 1 (.t 7) (.t 6)⟩,
 ⟨(some 9), none, false, .ld none (.t 8)⟩,
 ⟨(some 4), none, false, .mov (.t 9)⟩])
 .ret))
theorem c215 : (Go.Proofs.Tryz.f215).body.bind (comp prog.P (2, (Go.Proofs.Tryz.f215).ntmps) lv215) = some m215 := by kernel_rfl
theorem r215 : resOK prog.P (Go.Proofs.Tryz.f215).results.toList = true := by kernel_rfl

/-- impl.checksum -/
def lv219 : List (Nat × List Nat) := [(0, [0]), (1, [0, 3]), (2, [0, 3, 6, 7]), (3, [0, 3, 6, 7, 8]), (4, [0, 3, 4, 6, 7]), (5, [0, 3, 6, 7]), (6, [0, 3, 6, 7]), (7, [2])]
def m219 : MC :=
  (.seq
 (.reg false [0] [⟨(some 2), none, false, .mov (.k (.d (.int .i64 0)))⟩])
 (.seq
 (.reg false [0, 3] [⟨(some 3), none, false, .mov (.k (.d (.int .i64 7)))⟩])
 (.seq
 (.seq
 (.reg false [0, 3, 6, 7] [⟨(some 5), none, false, .mov (.t 0)⟩,
 ⟨(some 6), none, false, .len true (.t 5)⟩,
 ⟨(some 7), none, false, .mov (.k (.d (.int .i64 0)))⟩])
 (.block 0
 (.loop
 (.seq
 (.reg false [0, 3, 6, 7, 8] [⟨(some 8), none, false, .bin .lss (.t 7) (.t 6)⟩])
 (.seq
 (.cond (.t 8)
 .skip
 (.exit 0))
 (.seq
 (.block 1
 (.seq
 (.reg false [0, 3, 4, 6, 7] [⟨(some 9), none, false, .mov (.t 7)⟩,
 ⟨(some 4), none, false, .mov (.t 9)⟩])
 (.reg false [0, 3, 6, 7] [⟨(some 10), none, false, .mov (.t 3)⟩,
 ⟨(some 11), none, false, .bin .mul (.k (.d (.int .i64 41))) (.t 10)⟩,
 ⟨(some 12), none, false, .mov (.t 0)⟩,
 ⟨(some 13), none, false, .mov (.t 4)⟩,
 ⟨(some 14), none, false, .ix (.t 12) (.t 13)⟩,
 ⟨(some 15), none, false, .conv .i64 (.t 14)⟩,
 ⟨(some 16), none, false, .bin .add (.t 11) (.t 15)⟩,
 ⟨(some 17), none, false, .bin .add (.t 16) (.k (.d (.int .i64 1)))⟩,
 ⟨(some 18), none, false, .bin .rem (.t 17) (.k (.d (.int .i64 999979)))⟩,
 ⟨(some 3), none, false, .mov (.t 18)⟩])))
 (.reg false [0, 3, 6, 7] [⟨(some 19), none, false, .bin .add (.t 7) (.k (.d (.int .i64 1)))⟩,
 ⟨(some 7), none, false, .mov (.t 19)⟩])))))))
 (.seq
 (.reg false [2] [⟨(some 20), none, false, .mov (.t 3)⟩,
 ⟨(some 2), none, false, .mov (.t 20)⟩])
 .ret))))
theorem c219 : (Go.Proofs.Tryz.f219).body.bind (comp prog.P (1, (Go.Proofs.Tryz.f219).ntmps) lv219) = some m219 := by kernel_rfl
theorem r219 : resOK prog.P (Go.Proofs.Tryz.f219).results.toList = true := by kernel_rfl

/-- spec.l27Plain -/
def lv220 : List (Nat × List Nat) := [(0, [0, 1]), (1, [0, 1, 5]), (2, [0, 1, 5, 9]), (3, [0, 1, 5]), (4, [0, 1, 5, 23]), (5, [4]), (6, [4])]
def m220 : MC :=
  (.seq
 (.reg false [0, 1] [⟨(some 4), none, false, .mov (.k (.d (.bool false)))⟩])
 (.seq
 (.seq
 (.reg false [0, 1, 5] [⟨(some 5), none, false, .mov (.k (.d (.int .i64 0)))⟩])
 (.block 0
 (.loop
 (.seq
 (.seq
 (.reg false [0, 1, 5, 9] [⟨(some 6), none, false, .mov (.t 5)⟩,
 ⟨(some 7), none, false, .mov (.t 0)⟩,
 ⟨(some 8), none, false, .len true (.t 7)⟩,
 ⟨(some 9), none, false, .bin .lss (.t 6) (.t 8)⟩])
 (.cond (.t 9)
 .skip
 (.exit 0)))
 (.seq
 (.block 1
 (.seq
 (.reg false [0, 1, 5, 23] [⟨(some 12), none, false, .mov (.t 0)⟩,
 ⟨(some 13), none, false, .mov (.t 5)⟩,
 ⟨(some 14), none, false, .ix (.t 12) (.t 13)⟩,
 ⟨(some 15), none, false, .conv .i64 (.t 14)⟩,
 ⟨(some 16), none, true, .call 101 [(.t 15), (.k (.d (.int .i64 32))), (.k (.d (.int .i64 126)))]⟩,
 ⟨(some 17), none, false, .un .not (.t 16)⟩,
 ⟨(some 18), none, false, .mov (.t 17)⟩,
 ⟨(some 19), (some (18, false)), false, .mov (.t 0)⟩,
 ⟨(some 20), (some (18, false)), false, .mov (.t 5)⟩,
 ⟨(some 21), (some (18, false)), false, .ix (.t 19) (.t 20)⟩,
 ⟨(some 22), (some (18, false)), false, .bin .eql (.t 21) (.k (.d (.int .u8 35)))⟩,
 ⟨(some 23), none, false, .pick (.t 18) (.k (.d (.bool true))) (.t 22)⟩])
 (.cond (.t 23)
 (.seq
 (.reg false [4] [⟨(some 4), none, false, .mov (.k (.d (.bool false)))⟩])
 .ret)
 .skip)))
 (.reg false [0, 1, 5] [⟨(some 10), none, false, .mov (.t 5)⟩,
 ⟨(some 11), none, false, .bin .add (.t 10) (.k (.d (.int .i64 1)))⟩,
 ⟨(some 5), none, false, .mov (.t 11)⟩]))))))
 (.seq
 (.reg false [4] [⟨(some 24), none, false, .mov (.t 0)⟩,
 ⟨(some 25), none, false, .len true (.t 24)⟩,
 ⟨(some 26), none, false, .mov (.t 1)⟩,
 ⟨(some 27), none, false, .bin .leq (.t 25) (.t 26)⟩,
 ⟨(some 4), none, false, .mov (.t 27)⟩])
 .ret)))
theorem c220 : (Go.Proofs.Tryz.f220).body.bind (comp prog.P (2, (Go.Proofs.Tryz.f220).ntmps) lv220) = some m220 := by kernel_rfl
theorem r220 : resOK prog.P (Go.Proofs.Tryz.f220).results.toList = true := by kernel_rfl

/-- spec.l1Stands -/
def lv221 : List (Nat × List Nat) := [(0, [0, 1]), (1, [0, 1, 5]), (2, [0, 1, 5, 9]), (3, [0, 1, 5]), (4, [0, 1, 5, 16]), (5, [4]), (6, [4])]
def m221 : MC :=
  (.seq
 (.reg false [0, 1] [⟨(some 4), none, false, .mov (.k (.d (.bool false)))⟩])
 (.seq
 (.seq
 (.reg false [0, 1, 5] [⟨(some 5), none, false, .mov (.k (.d (.int .i64 0)))⟩])
 (.block 0
 (.loop
 (.seq
 (.seq
 (.reg false [0, 1, 5, 9] [⟨(some 6), none, false, .mov (.t 5)⟩,
 ⟨(some 7), none, false, .mov (.t 0)⟩,
 ⟨(some 8), none, false, .len true (.t 7)⟩,
 ⟨(some 9), none, false, .bin .lss (.t 6) (.t 8)⟩])
 (.cond (.t 9)
 .skip
 (.exit 0)))
 (.seq
 (.block 1
 (.seq
 (.reg false [0, 1, 5, 16] [⟨(some 12), none, false, .mov (.t 0)⟩,
 ⟨(some 13), none, false, .mov (.t 5)⟩,
 ⟨(some 14), none, false, .ix (.t 12) (.t 13)⟩,
 ⟨(some 15), none, false, .mov (.t 1)⟩,
 ⟨(some 16), none, false, .bin .eql (.t 14) (.t 15)⟩])
 (.cond (.t 16)
 (.seq
 (.reg false [4] [⟨(some 4), none, false, .mov (.k (.d (.bool true)))⟩])
 .ret)
 .skip)))
 (.reg false [0, 1, 5] [⟨(some 10), none, false, .mov (.t 5)⟩,
 ⟨(some 11), none, false, .bin .add (.t 10) (.k (.d (.int .i64 1)))⟩,
 ⟨(some 5), none, false, .mov (.t 11)⟩]))))))
 (.seq
 (.reg false [4] [⟨(some 4), none, false, .mov (.k (.d (.bool false)))⟩])
 .ret)))
theorem c221 : (Go.Proofs.Tryz.f221).body.bind (comp prog.P (2, (Go.Proofs.Tryz.f221).ntmps) lv221) = some m221 := by kernel_rfl
theorem r221 : resOK prog.P (Go.Proofs.Tryz.f221).results.toList = true := by kernel_rfl

/-- spec.l1Seal -/
def lv222 : List (Nat × List Nat) := [(0, [0]), (1, [2])]
def m222 : MC :=
  (.seq
 (.reg false [0] [⟨(some 2), none, false, .mov (.k (.d (.str [])))⟩])
 (.seq
 (.reg false [2] [⟨(some 3), none, false, .mov (.t 0)⟩,
 ⟨(some 4), none, false, .bin .add (.t 3) (.k (.d (.str [35])))⟩,
 ⟨(some 5), none, false, .mov (.t 0)⟩,
 ⟨(some 6), none, true, .call 191 [(.t 5)]⟩,
 ⟨(some 7), none, true, .call 61 [(.t 6)]⟩,
 ⟨(some 8), none, false, .bin .add (.t 4) (.t 7)⟩,
 ⟨(some 2), none, false, .mov (.t 8)⟩])
 .ret))
theorem c222 : (Go.Proofs.Tryz.f222).body.bind (comp prog.P (1, (Go.Proofs.Tryz.f222).ntmps) lv222) = some m222 := by kernel_rfl
theorem r222 : resOK prog.P (Go.Proofs.Tryz.f222).results.toList = true := by kernel_rfl

/-- impl.isPlain -/
def lv225 : List (Nat × List Nat) := [(0, [0]), (1, [0, 5, 6]), (2, [0, 5, 6, 7]), (3, [0, 3, 5, 6]), (4, [0, 5, 6, 24]), (5, [2]), (6, [0, 5, 6]), (7, [2])]
def m225 : MC :=
  (.seq
 (.reg false [0] [⟨(some 2), none, false, .mov (.k (.d (.bool false)))⟩])
 (.seq
 (.seq
 (.reg false [0, 5, 6] [⟨(some 4), none, false, .mov (.t 0)⟩,
 ⟨(some 5), none, false, .len true (.t 4)⟩,
 ⟨(some 6), none, false, .mov (.k (.d (.int .i64 0)))⟩])
 (.block 0
 (.loop
 (.seq
 (.reg false [0, 5, 6, 7] [⟨(some 7), none, false, .bin .lss (.t 6) (.t 5)⟩])
 (.seq
 (.cond (.t 7)
 .skip
 (.exit 0))
 (.seq
 (.block 1
 (.seq
 (.reg false [0, 3, 5, 6] [⟨(some 8), none, false, .mov (.t 6)⟩,
 ⟨(some 3), none, false, .mov (.t 8)⟩])
 (.seq
 (.reg false [0, 5, 6, 24] [⟨(some 9), none, false, .mov (.t 0)⟩,
 ⟨(some 10), none, false, .mov (.t 3)⟩,
 ⟨(some 11), none, false, .ix (.t 9) (.t 10)⟩,
 ⟨(some 12), none, false, .bin .lss (.t 11) (.k (.d (.int .u8 32)))⟩,
 ⟨(some 13), none, false, .mov (.t 12)⟩,
 ⟨(some 14), (some (13, false)), false, .mov (.t 0)⟩,
 ⟨(some 15), (some (13, false)), false, .mov (.t 3)⟩,
 ⟨(some 16), (some (13, false)), false, .ix (.t 14) (.t 15)⟩,
 ⟨(some 17), (some (13, false)), false, .bin .gtr (.t 16) (.k (.d (.int .u8 126)))⟩,
 ⟨(some 18), none, false, .pick (.t 13) (.k (.d (.bool true))) (.t 17)⟩,
 ⟨(some 19), none, false, .mov (.t 18)⟩,
 ⟨(some 20), (some (19, false)), false, .mov (.t 0)⟩,
 ⟨(some 21), (some (19, false)), false, .mov (.t 3)⟩,
 ⟨(some 22), (some (19, false)), false, .ix (.t 20) (.t 21)⟩,
 ⟨(some 23), (some (19, false)), false, .bin .eql (.t 22) (.k (.d (.int .u8 35)))⟩,
 ⟨(some 24), none, false, .pick (.t 19) (.k (.d (.bool true))) (.t 23)⟩])
 (.cond (.t 24)
 (.seq
 (.reg false [2] [⟨(some 2), none, false, .mov (.k (.d (.bool false)))⟩])
 .ret)
 .skip))))
 (.reg false [0, 5, 6] [⟨(some 25), none, false, .bin .add (.t 6) (.k (.d (.int .i64 1)))⟩,
 ⟨(some 6), none, false, .mov (.t 25)⟩])))))))
 (.seq
 (.reg false [2] [⟨(some 2), none, false, .mov (.k (.d (.bool true)))⟩])
 .ret)))
theorem c225 : (Go.Proofs.Tryz.f225).body.bind (comp prog.P (1, (Go.Proofs.Tryz.f225).ntmps) lv225) = some m225 := by kernel_rfl
theorem r225 : resOK prog.P (Go.Proofs.Tryz.f225).results.toList = true := by kernel_rfl

end Go.Pe.Tryz
