/-
The compact code of the functions that the law reaches, printed by gen.py, each with the proof that the machine's code is compiled to it.
-/
import Derived.Test.YtbkjloohaahmdaaMc1
import Derived.Test.YtbkjloohaahmdaaProg
import Derived.KernelRfl
set_option maxRecDepth 100000
namespace Go.Pe.Try
open Go.Pe

/-- spec.l1In -/
def lv131 : List (Nat × List Nat) := [(0, [0, 1, 2]), (1, [6])]
def m131 : MC :=
  (.seq
 (.reg false [0, 1, 2] [⟨(some 6), none, false, .mov (.k (.d (.bool false)))⟩])
 (.seq
 (.reg false [6] [⟨(some 7), none, false, .mov (.t 0)⟩,
 ⟨(some 8), none, false, .mov (.t 1)⟩,
 ⟨(some 9), none, false, .bin .geq (.t 7) (.t 8)⟩,
 ⟨(some 10), none, false, .mov (.t 9)⟩,
 ⟨(some 11), (some (10, true)), false, .mov (.t 0)⟩,
 ⟨(some 12), (some (10, true)), false, .mov (.t 2)⟩,
 ⟨(some 13), (some (10, true)), false, .bin .leq (.t 11) (.t 12)⟩,
 ⟨(some 14), none, false, .pick (.t 10) (.t 13) (.k (.d (.bool false)))⟩,
 ⟨(some 6), none, false, .mov (.t 14)⟩])
 .ret))
theorem c131 : (Go.Proofs.Try.f131).body.bind (comp prog.P (3, (Go.Proofs.Try.f131).ntmps) lv131) = some m131 := by kernel_rfl
theorem r131 : resOK prog.P (Go.Proofs.Try.f131).results.toList = true := by kernel_rfl

/-- slices.Clone[[]impl.Appeal,impl.Appeal] -/
def lv132 : List (Nat × List Nat) := [(0, [0]), (1, [0, 4]), (2, [2]), (3, [2])]
def m132 : MC :=
  (.seq
 (.reg false [0] [⟨(some 2), none, false, .mov (.k .nil)⟩])
 (.seq
 (.seq
 (.reg false [0, 4] [⟨(some 3), none, false, .mov (.t 0)⟩,
 ⟨(some 4), none, true, .snil false (.t 3)⟩])
 (.cond (.t 4)
 (.seq
 (.reg false [2] [⟨(some 2), none, false, .mov (.k .nil)⟩])
 .ret)
 .skip))
 (.seq
 (.reg false [2] [⟨(some 5), none, true, .bs 6 0 (.st (.cons (.int .i64 0) (.cons (.int .i64 0) (.cons (.int .i64 0) (.cons (.sl true 1 .nil) (.cons (.sl true 1 .nil) (.cons (.int .i64 0) .nil))))))) []⟩,
 ⟨(some 6), none, false, .mov (.t 0)⟩,
 ⟨(some 7), none, true, .app 6 80 (.t 5) (.t 6)⟩,
 ⟨(some 2), none, false, .mov (.t 7)⟩])
 .ret)))
theorem c132 : (Go.Proofs.Try.f132).body.bind (comp prog.P (1, (Go.Proofs.Try.f132).ntmps) lv132) = some m132 := by kernel_rfl
theorem r132 : resOK prog.P (Go.Proofs.Try.f132).results.toList = true := by kernel_rfl

/-- slices.pdqsortOrdered[int] -/
def lv133 : List (Nat × List Nat) := [(0, [0, 1, 2, 3, 8]), (1, [0, 1, 2, 3, 8, 9]), (2, [0, 1, 2, 3, 8, 9, 10]), (3, [0, 1, 2, 3, 8, 9, 10, 23]), (4, [0]), (5, [0, 1, 2, 3, 8, 9, 10, 29]), (6, [0]), (7, [0, 1, 2, 3, 8, 9, 10, 35]), (8, [0, 1, 2, 3, 8, 9, 10]), (9, [0, 1, 2, 3, 8, 9, 10]), (10, [0, 1, 2, 3, 8, 9, 10, 11, 12]), (11, [0, 1, 2, 3, 8, 9, 10, 11, 12, 50]), (12, [0, 1, 2, 3, 8, 9, 10, 11]), (13, [0, 1, 2, 3, 8, 9, 10, 11]), (14, [0, 1, 2, 3, 8, 9, 10, 11, 12]), (15, [0, 1, 2, 3, 8, 9, 10, 11, 68]), (16, [0, 1, 2, 3, 8, 9, 10, 11, 72]), (17, [0, 1, 2, 3, 8, 9, 10, 11, 87]), (18, [0, 2, 3, 8, 9, 13]), (19, [0, 1, 2, 3, 8, 9]), (20, [0, 1, 2, 3, 10, 14, 15]), (21, [0, 1, 2, 3, 9, 10, 14]), (22, [0, 1, 2, 3, 9, 10, 14, 16, 17]), (23, [0, 1, 2, 3, 9, 14, 16, 17, 18]), (24, [0, 1, 2, 3, 9, 14, 16, 17, 18, 113]), (25, [0, 1, 2, 3, 8, 9, 14]), (26, [0, 2, 3, 8, 9, 14]), (27, [0, 1, 2, 3, 8, 9]), (28, [0, 1, 2, 3, 8, 9, 14]), (29, [0, 1, 3, 8, 9, 14]), (30, [0, 1, 2, 3, 8, 9])]
def m133 : MC :=
  (.seq
 (.reg false [0, 1, 2, 3, 8] [⟨(some 8), none, false, .mov (.k (.d (.bool true)))⟩])
 (.seq
 (.reg false [0, 1, 2, 3, 8, 9] [⟨(some 9), none, false, .mov (.k (.d (.bool true)))⟩])
 (.block 0
 (.loop
 (.block 1
 (.seq
 (.reg false [0, 1, 2, 3, 8, 9, 10] [⟨(some 19), none, false, .mov (.t 2)⟩,
 ⟨(some 20), none, false, .mov (.t 1)⟩,
 ⟨(some 21), none, false, .bin .sub (.t 19) (.t 20)⟩,
 ⟨(some 10), none, false, .mov (.t 21)⟩])
 (.seq
 (.seq
 (.reg false [0, 1, 2, 3, 8, 9, 10, 23] [⟨(some 22), none, false, .mov (.t 10)⟩,
 ⟨(some 23), none, false, .bin .leq (.t 22) (.k (.d (.int .i64 12)))⟩])
 (.cond (.t 23)
 (.seq
 (.reg false [0] [⟨(some 24), none, false, .mov (.t 0)⟩,
 ⟨(some 25), none, false, .mov (.t 1)⟩,
 ⟨(some 26), none, false, .mov (.t 2)⟩,
 ⟨(some 27), none, true, .call 140 [(.t 24), (.t 25), (.t 26)]⟩])
 .ret)
 .skip))
 (.seq
 (.seq
 (.reg false [0, 1, 2, 3, 8, 9, 10, 29] [⟨(some 28), none, false, .mov (.t 3)⟩,
 ⟨(some 29), none, false, .bin .eql (.t 28) (.k (.d (.int .i64 0)))⟩])
 (.cond (.t 29)
 (.seq
 (.reg false [0] [⟨(some 30), none, false, .mov (.t 0)⟩,
 ⟨(some 31), none, false, .mov (.t 1)⟩,
 ⟨(some 32), none, false, .mov (.t 2)⟩,
 ⟨(some 33), none, true, .call 141 [(.t 30), (.t 31), (.t 32)]⟩])
 .ret)
 .skip))
 (.seq
 (.seq
 (.reg false [0, 1, 2, 3, 8, 9, 10, 35] [⟨(some 34), none, false, .mov (.t 8)⟩,
 ⟨(some 35), none, false, .un .not (.t 34)⟩])
 (.cond (.t 35)
 (.seq
 (.reg false [0, 1, 2, 3, 8, 9, 10] [⟨(some 36), none, false, .mov (.t 0)⟩,
 ⟨(some 37), none, false, .mov (.t 1)⟩,
 ⟨(some 38), none, false, .mov (.t 2)⟩,
 ⟨(some 39), none, true, .call 142 [(.t 36), (.t 37), (.t 38)]⟩])
 (.reg false [0, 1, 2, 3, 8, 9, 10] [⟨(some 40), none, false, .mov (.t 3)⟩,
 ⟨(some 41), none, false, .bin .sub (.t 40) (.k (.d (.int .i64 1)))⟩,
 ⟨(some 3), none, false, .mov (.t 41)⟩]))
 .skip))
 (.seq
 (.reg false [0, 1, 2, 3, 8, 9, 10, 11, 12] [⟨(some 43), none, false, .mov (.t 0)⟩,
 ⟨(some 44), none, false, .mov (.t 1)⟩,
 ⟨(some 45), none, false, .mov (.t 2)⟩,
 ⟨(some 46), none, true, .call 143 [(.t 43), (.t 44), (.t 45)]⟩,
 ⟨(some 42), none, false, .mov (.t 46)⟩,
 ⟨(some 47), none, false, .ext (.t 42) 0⟩,
 ⟨(some 48), none, false, .ext (.t 42) 1⟩,
 ⟨(some 11), none, false, .mov (.t 47)⟩,
 ⟨(some 12), none, false, .mov (.t 48)⟩])
 (.seq
 (.seq
 (.reg false [0, 1, 2, 3, 8, 9, 10, 11, 12, 50] [⟨(some 49), none, false, .mov (.t 12)⟩,
 ⟨(some 50), none, false, .bin .eql (.t 49) (.k (.d (.int .i64 2)))⟩])
 (.cond (.t 50)
 (.seq
 (.reg false [0, 1, 2, 3, 8, 9, 10, 11] [⟨(some 51), none, false, .mov (.t 0)⟩,
 ⟨(some 52), none, false, .mov (.t 1)⟩,
 ⟨(some 53), none, false, .mov (.t 2)⟩,
 ⟨(some 54), none, true, .call 144 [(.t 51), (.t 52), (.t 53)]⟩])
 (.seq
 (.reg false [0, 1, 2, 3, 8, 9, 10, 11] [⟨(some 55), none, false, .mov (.t 2)⟩,
 ⟨(some 56), none, false, .bin .sub (.t 55) (.k (.d (.int .i64 1)))⟩,
 ⟨(some 57), none, false, .mov (.t 11)⟩,
 ⟨(some 58), none, false, .mov (.t 1)⟩,
 ⟨(some 59), none, false, .bin .sub (.t 57) (.t 58)⟩,
 ⟨(some 60), none, false, .bin .sub (.t 56) (.t 59)⟩,
 ⟨(some 11), none, false, .mov (.t 60)⟩])
 (.reg false [0, 1, 2, 3, 8, 9, 10, 11, 12] [⟨(some 12), none, false, .mov (.k (.d (.int .i64 1)))⟩])))
 .skip))
 (.seq
 (.seq
 (.reg false [0, 1, 2, 3, 8, 9, 10, 11, 68] [⟨(some 61), none, false, .mov (.t 8)⟩,
 ⟨(some 62), none, false, .mov (.t 61)⟩,
 ⟨(some 63), (some (62, true)), false, .mov (.t 9)⟩,
 ⟨(some 64), none, false, .pick (.t 62) (.t 63) (.k (.d (.bool false)))⟩,
 ⟨(some 65), none, false, .mov (.t 64)⟩,
 ⟨(some 66), (some (65, true)), false, .mov (.t 12)⟩,
 ⟨(some 67), (some (65, true)), false, .bin .eql (.t 66) (.k (.d (.int .i64 1)))⟩,
 ⟨(some 68), none, false, .pick (.t 65) (.t 67) (.k (.d (.bool false)))⟩])
 (.cond (.t 68)
 (.seq
 (.reg false [0, 1, 2, 3, 8, 9, 10, 11, 72] [⟨(some 69), none, false, .mov (.t 0)⟩,
 ⟨(some 70), none, false, .mov (.t 1)⟩,
 ⟨(some 71), none, false, .mov (.t 2)⟩,
 ⟨(some 72), none, true, .call 145 [(.t 69), (.t 70), (.t 71)]⟩])
 (.cond (.t 72)
 .ret
 .skip))
 .skip))
 (.seq
 (.seq
 (.reg true [0, 1, 2, 3, 8, 9, 10, 11, 87] [⟨(some 73), none, false, .mov (.t 1)⟩,
 ⟨(some 74), none, false, .bin .gtr (.t 73) (.k (.d (.int .i64 0)))⟩,
 ⟨(some 75), none, false, .mov (.t 74)⟩,
 ⟨(some 76), (some (75, true)), false, .mov (.t 0)⟩,
 ⟨(some 77), (some (75, true)), false, .mov (.t 1)⟩,
 ⟨(some 78), (some (75, true)), false, .bin .sub (.t 77) (.k (.d (.int .i64 1)))⟩,
 ⟨(some 79), (some (75, true)), false, .ia 1 (.t 76) (.t 78)⟩,
 ⟨(some 80), (some (75, true)), false, .ld none (.t 79)⟩,
 ⟨(some 81), (some (75, true)), false, .mov (.t 0)⟩,
 ⟨(some 82), (some (75, true)), false, .mov (.t 11)⟩,
 ⟨(some 83), (some (75, true)), false, .ia 1 (.t 81) (.t 82)⟩,
 ⟨(some 84), (some (75, true)), false, .ld none (.t 83)⟩,
 ⟨(some 85), (some (75, true)), false, .callP 146 [(.t 80), (.t 84)]⟩,
 ⟨(some 86), (some (75, true)), false, .un .not (.t 85)⟩,
 ⟨(some 87), none, false, .pick (.t 75) (.t 86) (.k (.d (.bool false)))⟩])
 (.cond (.t 87)
 (.seq
 (.reg false [0, 2, 3, 8, 9, 13] [⟨(some 88), none, false, .mov (.t 0)⟩,
 ⟨(some 89), none, false, .mov (.t 1)⟩,
 ⟨(some 90), none, false, .mov (.t 2)⟩,
 ⟨(some 91), none, false, .mov (.t 11)⟩,
 ⟨(some 92), none, true, .call 147 [(.t 88), (.t 89), (.t 90), (.t 91)]⟩,
 ⟨(some 13), none, false, .mov (.t 92)⟩])
 (.seq
 (.reg false [0, 1, 2, 3, 8, 9] [⟨(some 93), none, false, .mov (.t 13)⟩,
 ⟨(some 1), none, false, .mov (.t 93)⟩])
 (.exit 1)))
 .skip))
 (.seq
 (.reg false [0, 1, 2, 3, 10, 14, 15] [⟨(some 95), none, false, .mov (.t 0)⟩,
 ⟨(some 96), none, false, .mov (.t 1)⟩,
 ⟨(some 97), none, false, .mov (.t 2)⟩,
 ⟨(some 98), none, false, .mov (.t 11)⟩,
 ⟨(some 99), none, true, .call 148 [(.t 95), (.t 96), (.t 97), (.t 98)]⟩,
 ⟨(some 94), none, false, .mov (.t 99)⟩,
 ⟨(some 100), none, false, .ext (.t 94) 0⟩,
 ⟨(some 101), none, false, .ext (.t 94) 1⟩,
 ⟨(some 14), none, false, .mov (.t 100)⟩,
 ⟨(some 15), none, false, .mov (.t 101)⟩])
 (.seq
 (.reg false [0, 1, 2, 3, 9, 10, 14] [⟨(some 102), none, false, .mov (.t 15)⟩,
 ⟨(some 9), none, false, .mov (.t 102)⟩])
 (.seq
 (.reg false [0, 1, 2, 3, 9, 10, 14, 16, 17] [⟨(some 103), none, false, .mov (.t 14)⟩,
 ⟨(some 104), none, false, .mov (.t 1)⟩,
 ⟨(some 105), none, false, .bin .sub (.t 103) (.t 104)⟩,
 ⟨(some 106), none, false, .mov (.t 2)⟩,
 ⟨(some 107), none, false, .mov (.t 14)⟩,
 ⟨(some 108), none, false, .bin .sub (.t 106) (.t 107)⟩,
 ⟨(some 16), none, false, .mov (.t 105)⟩,
 ⟨(some 17), none, false, .mov (.t 108)⟩])
 (.seq
 (.reg false [0, 1, 2, 3, 9, 14, 16, 17, 18] [⟨(some 109), none, false, .mov (.t 10)⟩,
 ⟨(some 110), none, false, .bin .quo (.t 109) (.k (.d (.int .i64 8)))⟩,
 ⟨(some 18), none, false, .mov (.t 110)⟩])
 (.seq
 (.reg false [0, 1, 2, 3, 9, 14, 16, 17, 18, 113] [⟨(some 111), none, false, .mov (.t 16)⟩,
 ⟨(some 112), none, false, .mov (.t 17)⟩,
 ⟨(some 113), none, false, .bin .lss (.t 111) (.t 112)⟩])
 (.cond (.t 113)
 (.seq
 (.reg false [0, 1, 2, 3, 8, 9, 14] [⟨(some 114), none, false, .mov (.t 16)⟩,
 ⟨(some 115), none, false, .mov (.t 18)⟩,
 ⟨(some 116), none, false, .bin .geq (.t 114) (.t 115)⟩,
 ⟨(some 8), none, false, .mov (.t 116)⟩])
 (.seq
 (.reg false [0, 2, 3, 8, 9, 14] [⟨(some 117), none, false, .mov (.t 0)⟩,
 ⟨(some 118), none, false, .mov (.t 1)⟩,
 ⟨(some 119), none, false, .mov (.t 14)⟩,
 ⟨(some 120), none, false, .mov (.t 3)⟩,
 ⟨(some 121), none, true, .call 133 [(.t 117), (.t 118), (.t 119), (.t 120)]⟩])
 (.reg false [0, 1, 2, 3, 8, 9] [⟨(some 122), none, false, .mov (.t 14)⟩,
 ⟨(some 123), none, false, .bin .add (.t 122) (.k (.d (.int .i64 1)))⟩,
 ⟨(some 1), none, false, .mov (.t 123)⟩])))
 (.seq
 (.reg false [0, 1, 2, 3, 8, 9, 14] [⟨(some 124), none, false, .mov (.t 17)⟩,
 ⟨(some 125), none, false, .mov (.t 18)⟩,
 ⟨(some 126), none, false, .bin .geq (.t 124) (.t 125)⟩,
 ⟨(some 8), none, false, .mov (.t 126)⟩])
 (.seq
 (.reg false [0, 1, 3, 8, 9, 14] [⟨(some 127), none, false, .mov (.t 0)⟩,
 ⟨(some 128), none, false, .mov (.t 14)⟩,
 ⟨(some 129), none, false, .bin .add (.t 128) (.k (.d (.int .i64 1)))⟩,
 ⟨(some 130), none, false, .mov (.t 2)⟩,
 ⟨(some 131), none, false, .mov (.t 3)⟩,
 ⟨(some 132), none, true, .call 133 [(.t 127), (.t 129), (.t 130), (.t 131)]⟩])
 (.reg false [0, 1, 2, 3, 8, 9] [⟨(some 133), none, false, .mov (.t 14)⟩,
 ⟨(some 2), none, false, .mov (.t 133)⟩]))))))))))))))))))))))
theorem c133 : (Go.Proofs.Try.f133).body.bind (comp prog.P (1, (Go.Proofs.Try.f133).ntmps) lv133) = some m133 := by kernel_rfl
theorem r133 : resOK prog.P (Go.Proofs.Try.f133).results.toList = true := by kernel_rfl

/-- bits.Len -/
def lv134 : List (Nat × List Nat) := [(0, [0]), (1, [2]), (2, [2])]
def m134 : MC :=
  (.seq
 (.reg false [0] [⟨(some 2), none, false, .mov (.k (.d (.int .i64 0)))⟩])
 (.seq
 (.cond (.k (.d (.bool false)))
 (.seq
 (.reg false [2] [⟨(some 3), none, false, .mov (.t 0)⟩,
 ⟨(some 4), none, false, .conv .u32 (.t 3)⟩,
 ⟨(some 5), none, true, .call 149 [(.t 4)]⟩,
 ⟨(some 2), none, false, .mov (.t 5)⟩])
 .ret)
 .skip)
 (.seq
 (.reg false [2] [⟨(some 6), none, false, .mov (.t 0)⟩,
 ⟨(some 7), none, true, .call 150 [(.t 6)]⟩,
 ⟨(some 2), none, false, .mov (.t 7)⟩])
 .ret)))
theorem c134 : (Go.Proofs.Try.f134).body.bind (comp prog.P (1, (Go.Proofs.Try.f134).ntmps) lv134) = some m134 := by kernel_rfl
theorem r134 : resOK prog.P (Go.Proofs.Try.f134).results.toList = true := by kernel_rfl

/-- spec.l1Rising -/
def lv135 : List (Nat × List Nat) := [(0, [0, 1, 2]), (1, [0, 1, 2, 7]), (2, [0, 1, 2, 7, 11]), (3, [0, 1, 2, 7]), (4, [0, 1, 2, 7, 37]), (5, [6]), (6, [6])]
def m135 : MC :=
  (.seq
 (.reg false [0, 1, 2] [⟨(some 6), none, false, .mov (.k (.d (.bool false)))⟩])
 (.seq
 (.seq
 (.reg false [0, 1, 2, 7] [⟨(some 7), none, false, .mov (.k (.d (.int .i64 0)))⟩])
 (.block 0
 (.loop
 (.seq
 (.seq
 (.reg false [0, 1, 2, 7, 11] [⟨(some 8), none, false, .mov (.t 7)⟩,
 ⟨(some 9), none, false, .mov (.t 0)⟩,
 ⟨(some 10), none, false, .len false (.t 9)⟩,
 ⟨(some 11), none, false, .bin .lss (.t 8) (.t 10)⟩])
 (.cond (.t 11)
 .skip
 (.exit 0)))
 (.seq
 (.block 1
 (.seq
 (.reg true [0, 1, 2, 7, 37] [⟨(some 14), none, false, .mov (.t 0)⟩,
 ⟨(some 15), none, false, .mov (.t 7)⟩,
 ⟨(some 16), none, false, .ia 1 (.t 14) (.t 15)⟩,
 ⟨(some 17), none, false, .ld none (.t 16)⟩,
 ⟨(some 18), none, false, .mov (.t 1)⟩,
 ⟨(some 19), none, false, .mov (.t 2)⟩,
 ⟨(some 20), none, false, .callP 131 [(.t 17), (.t 18), (.t 19)]⟩,
 ⟨(some 21), none, false, .un .not (.t 20)⟩,
 ⟨(some 22), none, false, .mov (.t 21)⟩,
 ⟨(some 23), (some (22, false)), false, .mov (.t 7)⟩,
 ⟨(some 24), (some (22, false)), false, .bin .gtr (.t 23) (.k (.d (.int .i64 0)))⟩,
 ⟨(some 25), (some (22, false)), false, .mov (.t 24)⟩,
 ⟨(some 26), (some (25, true)), false, .mov (.t 0)⟩,
 ⟨(some 27), (some (25, true)), false, .mov (.t 7)⟩,
 ⟨(some 28), (some (25, true)), false, .bin .sub (.t 27) (.k (.d (.int .i64 1)))⟩,
 ⟨(some 29), (some (25, true)), false, .ia 1 (.t 26) (.t 28)⟩,
 ⟨(some 30), (some (25, true)), false, .ld none (.t 29)⟩,
 ⟨(some 31), (some (25, true)), false, .mov (.t 0)⟩,
 ⟨(some 32), (some (25, true)), false, .mov (.t 7)⟩,
 ⟨(some 33), (some (25, true)), false, .ia 1 (.t 31) (.t 32)⟩,
 ⟨(some 34), (some (25, true)), false, .ld none (.t 33)⟩,
 ⟨(some 35), (some (25, true)), false, .bin .geq (.t 30) (.t 34)⟩,
 ⟨(some 36), (some (22, false)), false, .pick (.t 25) (.t 35) (.k (.d (.bool false)))⟩,
 ⟨(some 37), none, false, .pick (.t 22) (.k (.d (.bool true))) (.t 36)⟩])
 (.cond (.t 37)
 (.seq
 (.reg false [6] [⟨(some 6), none, false, .mov (.k (.d (.bool false)))⟩])
 .ret)
 .skip)))
 (.reg false [0, 1, 2, 7] [⟨(some 12), none, false, .mov (.t 7)⟩,
 ⟨(some 13), none, false, .bin .add (.t 12) (.k (.d (.int .i64 1)))⟩,
 ⟨(some 7), none, false, .mov (.t 13)⟩]))))))
 (.seq
 (.reg false [6] [⟨(some 6), none, false, .mov (.k (.d (.bool true)))⟩])
 .ret)))
theorem c135 : (Go.Proofs.Try.f135).body.bind (comp prog.P (3, (Go.Proofs.Try.f135).ntmps) lv135) = some m135 := by kernel_rfl
theorem r135 : resOK prog.P (Go.Proofs.Try.f135).results.toList = true := by kernel_rfl

/-- impl.abs -/
def lv137 : List (Nat × List Nat) := [(0, [0]), (1, [0, 4]), (2, [2]), (3, [2])]
def m137 : MC :=
  (.seq
 (.reg false [0] [⟨(some 2), none, false, .mov (.k (.d (.int .i64 0)))⟩])
 (.seq
 (.seq
 (.reg false [0, 4] [⟨(some 3), none, false, .mov (.t 0)⟩,
 ⟨(some 4), none, false, .bin .lss (.t 3) (.k (.d (.int .i64 0)))⟩])
 (.cond (.t 4)
 (.seq
 (.reg false [2] [⟨(some 5), none, false, .mov (.t 0)⟩,
 ⟨(some 6), none, false, .un .neg (.t 5)⟩,
 ⟨(some 2), none, false, .mov (.t 6)⟩])
 .ret)
 .skip))
 (.seq
 (.reg false [2] [⟨(some 7), none, false, .mov (.t 0)⟩,
 ⟨(some 2), none, false, .mov (.t 7)⟩])
 .ret)))
theorem c137 : (Go.Proofs.Try.f137).body.bind (comp prog.P (1, (Go.Proofs.Try.f137).ntmps) lv137) = some m137 := by kernel_rfl
theorem r137 : resOK prog.P (Go.Proofs.Try.f137).results.toList = true := by kernel_rfl

/-- slices.insertionSortCmpFunc[impl.Appeal] -/
def lv138 : List (Nat × List Nat) := [(0, [0, 1, 2, 3, 8]), (1, [0, 1, 2, 3, 8, 14]), (2, [0, 1, 2, 3, 8]), (3, [0, 1, 2, 3, 8, 9]), (4, [0, 1, 2, 3, 8, 9, 34]), (5, [0, 1, 2, 3, 8, 9]), (6, [0, 1, 2, 3, 8, 9]), (1000006, [3, 15, 16, 17, 1, 0, 1, 1, 1, 2, 1, 3, 1, 4, 1, 5, 1, 6, 1, 7, 1, 8, 1, 9, 1, 10, 1, 11, 1, 12, 1, 13, 1, 14, 2, 15, 2, 16, 2, 17, 0])]
def m138 : MC :=
  (.seq
 (.reg false [0, 1, 2, 3, 8] [⟨(some 10), none, false, .mov (.t 1)⟩,
 ⟨(some 11), none, false, .bin .add (.t 10) (.k (.d (.int .i64 1)))⟩,
 ⟨(some 8), none, false, .mov (.t 11)⟩])
 (.block 0
 (.loop
 (.seq
 (.seq
 (.reg false [0, 1, 2, 3, 8, 14] [⟨(some 12), none, false, .mov (.t 8)⟩,
 ⟨(some 13), none, false, .mov (.t 2)⟩,
 ⟨(some 14), none, false, .bin .lss (.t 12) (.t 13)⟩])
 (.cond (.t 14)
 .skip
 (.exit 0)))
 (.seq
 (.block 1
 (.seq
 (.reg false [0, 1, 2, 3, 8, 9] [⟨(some 17), none, false, .mov (.t 8)⟩,
 ⟨(some 9), none, false, .mov (.t 17)⟩])
 (.block 2
 (.loop
 (.seq
 (.seq
 (.reg true [0, 1, 2, 3, 8, 9, 34] [⟨(some 18), none, false, .mov (.t 9)⟩,
 ⟨(some 19), none, false, .mov (.t 1)⟩,
 ⟨(some 20), none, false, .bin .gtr (.t 18) (.t 19)⟩,
 ⟨(some 21), none, false, .mov (.t 20)⟩,
 ⟨(some 22), (some (21, true)), false, .mov (.t 3)⟩,
 ⟨(some 23), (some (21, true)), false, .mov (.t 0)⟩,
 ⟨(some 24), (some (21, true)), false, .mov (.t 9)⟩,
 ⟨(some 25), (some (21, true)), false, .ia 6 (.t 23) (.t 24)⟩,
 ⟨(some 26), (some (21, true)), false, .ld (some 6) (.t 25)⟩,
 ⟨(some 27), (some (21, true)), false, .mov (.t 0)⟩,
 ⟨(some 28), (some (21, true)), false, .mov (.t 9)⟩,
 ⟨(some 29), (some (21, true)), false, .bin .sub (.t 28) (.k (.d (.int .i64 1)))⟩,
 ⟨(some 30), (some (21, true)), false, .ia 6 (.t 27) (.t 29)⟩,
 ⟨(some 31), (some (21, true)), false, .ld (some 6) (.t 30)⟩,
 ⟨(some 32), (some (21, true)), false, .callV (.t 22) [(.t 26), (.t 31)]⟩,
 ⟨(some 33), (some (21, true)), false, .bin .lss (.t 32) (.k (.d (.int .i64 0)))⟩,
 ⟨(some 34), none, false, .pick (.t 21) (.t 33) (.k (.d (.bool false)))⟩])
 (.cond (.t 34)
 .skip
 (.exit 2)))
 (.seq
 (.block 3
 (.any [15, 16, 17] [0, 1, 2, 3, 8, 9] (.q 0 ⟨(some 37), none, false, .mov (.t 0)⟩ (.q 1 ⟨(some 38), none, false, .mov (.t 9)⟩ (.q 2 ⟨(some 39), none, false, .mov (.t 0)⟩ (.q 3 ⟨(some 40), none, false, .mov (.t 9)⟩ (.q 4 ⟨(some 41), none, false, .bin .sub (.t 40) (.k (.d (.int .i64 1)))⟩ (.q 5 ⟨(some 42), none, false, .mov (.t 0)⟩ (.q 6 ⟨(some 43), none, false, .mov (.t 9)⟩ (.q 7 ⟨(some 44), none, false, .bin .sub (.t 43) (.k (.d (.int .i64 1)))⟩ (.q 8 ⟨(some 45), none, false, .ia 6 (.t 42) (.t 44)⟩ (.q 9 ⟨(some 46), none, false, .ld (some 6) (.t 45)⟩ (.q 10 ⟨(some 47), none, false, .mov (.t 0)⟩ (.q 11 ⟨(some 48), none, false, .mov (.t 9)⟩ (.q 12 ⟨(some 49), none, false, .ia 6 (.t 47) (.t 48)⟩ (.q 13 ⟨(some 50), none, false, .ld (some 6) (.t 49)⟩ (.q 14 ⟨(some 51), none, false, .ia 6 (.t 37) (.t 38)⟩ (.e 15 ⟨none, none, true, .st 6 (.t 51) (.t 46)⟩ (.e 16 ⟨(some 52), none, false, .ia 6 (.t 39) (.t 41)⟩ (.e 17 ⟨none, none, true, .st 6 (.t 52) (.t 50)⟩ .done))))))))))))))))))))
 (.reg false [0, 1, 2, 3, 8, 9] [⟨(some 35), none, false, .mov (.t 9)⟩,
 ⟨(some 36), none, false, .bin .sub (.t 35) (.k (.d (.int .i64 1)))⟩,
 ⟨(some 9), none, false, .mov (.t 36)⟩])))))))
 (.reg false [0, 1, 2, 3, 8] [⟨(some 15), none, false, .mov (.t 8)⟩,
 ⟨(some 16), none, false, .bin .add (.t 15) (.k (.d (.int .i64 1)))⟩,
 ⟨(some 8), none, false, .mov (.t 16)⟩]))))))
theorem c138 : (Go.Proofs.Try.f138).body.bind (comp prog.P (4, (Go.Proofs.Try.f138).ntmps) lv138) = some m138 := by kernel_rfl
theorem r138 : resOK prog.P (Go.Proofs.Try.f138).results.toList = true := by kernel_rfl

/-- slices.insertionSortOrdered[int] -/
def lv140 : List (Nat × List Nat) := [(0, [0, 1, 2, 6]), (1, [0, 1, 2, 6, 12]), (2, [0, 1, 2, 6]), (3, [0, 1, 2, 6, 7]), (4, [0, 1, 2, 6, 7, 30]), (5, [0, 1, 2, 6, 7]), (6, [0, 1, 2, 6, 7]), (1000006, [3, 15, 16, 17, 1, 0, 1, 1, 1, 2, 1, 3, 1, 4, 1, 5, 1, 6, 1, 7, 1, 8, 1, 9, 1, 10, 1, 11, 1, 12, 1, 13, 1, 14, 2, 15, 2, 16, 2, 17, 0])]
def m140 : MC :=
  (.seq
 (.reg false [0, 1, 2, 6] [⟨(some 8), none, false, .mov (.t 1)⟩,
 ⟨(some 9), none, false, .bin .add (.t 8) (.k (.d (.int .i64 1)))⟩,
 ⟨(some 6), none, false, .mov (.t 9)⟩])
 (.block 0
 (.loop
 (.seq
 (.seq
 (.reg false [0, 1, 2, 6, 12] [⟨(some 10), none, false, .mov (.t 6)⟩,
 ⟨(some 11), none, false, .mov (.t 2)⟩,
 ⟨(some 12), none, false, .bin .lss (.t 10) (.t 11)⟩])
 (.cond (.t 12)
 .skip
 (.exit 0)))
 (.seq
 (.block 1
 (.seq
 (.reg false [0, 1, 2, 6, 7] [⟨(some 15), none, false, .mov (.t 6)⟩,
 ⟨(some 7), none, false, .mov (.t 15)⟩])
 (.block 2
 (.loop
 (.seq
 (.seq
 (.reg true [0, 1, 2, 6, 7, 30] [⟨(some 16), none, false, .mov (.t 7)⟩,
 ⟨(some 17), none, false, .mov (.t 1)⟩,
 ⟨(some 18), none, false, .bin .gtr (.t 16) (.t 17)⟩,
 ⟨(some 19), none, false, .mov (.t 18)⟩,
 ⟨(some 20), (some (19, true)), false, .mov (.t 0)⟩,
 ⟨(some 21), (some (19, true)), false, .mov (.t 7)⟩,
 ⟨(some 22), (some (19, true)), false, .ia 1 (.t 20) (.t 21)⟩,
 ⟨(some 23), (some (19, true)), false, .ld none (.t 22)⟩,
 ⟨(some 24), (some (19, true)), false, .mov (.t 0)⟩,
 ⟨(some 25), (some (19, true)), false, .mov (.t 7)⟩,
 ⟨(some 26), (some (19, true)), false, .bin .sub (.t 25) (.k (.d (.int .i64 1)))⟩,
 ⟨(some 27), (some (19, true)), false, .ia 1 (.t 24) (.t 26)⟩,
 ⟨(some 28), (some (19, true)), false, .ld none (.t 27)⟩,
 ⟨(some 29), (some (19, true)), false, .callP 146 [(.t 23), (.t 28)]⟩,
 ⟨(some 30), none, false, .pick (.t 19) (.t 29) (.k (.d (.bool false)))⟩])
 (.cond (.t 30)
 .skip
 (.exit 2)))
 (.seq
 (.block 3
 (.any [15, 16, 17] [0, 1, 2, 6, 7] (.q 0 ⟨(some 33), none, false, .mov (.t 0)⟩ (.q 1 ⟨(some 34), none, false, .mov (.t 7)⟩ (.q 2 ⟨(some 35), none, false, .mov (.t 0)⟩ (.q 3 ⟨(some 36), none, false, .mov (.t 7)⟩ (.q 4 ⟨(some 37), none, false, .bin .sub (.t 36) (.k (.d (.int .i64 1)))⟩ (.q 5 ⟨(some 38), none, false, .mov (.t 0)⟩ (.q 6 ⟨(some 39), none, false, .mov (.t 7)⟩ (.q 7 ⟨(some 40), none, false, .bin .sub (.t 39) (.k (.d (.int .i64 1)))⟩ (.q 8 ⟨(some 41), none, false, .ia 1 (.t 38) (.t 40)⟩ (.q 9 ⟨(some 42), none, false, .ld none (.t 41)⟩ (.q 10 ⟨(some 43), none, false, .mov (.t 0)⟩ (.q 11 ⟨(some 44), none, false, .mov (.t 7)⟩ (.q 12 ⟨(some 45), none, false, .ia 1 (.t 43) (.t 44)⟩ (.q 13 ⟨(some 46), none, false, .ld none (.t 45)⟩ (.q 14 ⟨(some 47), none, false, .ia 1 (.t 33) (.t 34)⟩ (.e 15 ⟨none, none, true, .st 1 (.t 47) (.t 42)⟩ (.e 16 ⟨(some 48), none, false, .ia 1 (.t 35) (.t 37)⟩ (.e 17 ⟨none, none, true, .st 1 (.t 48) (.t 46)⟩ .done))))))))))))))))))))
 (.reg false [0, 1, 2, 6, 7] [⟨(some 31), none, false, .mov (.t 7)⟩,
 ⟨(some 32), none, false, .bin .sub (.t 31) (.k (.d (.int .i64 1)))⟩,
 ⟨(some 7), none, false, .mov (.t 32)⟩])))))))
 (.reg false [0, 1, 2, 6] [⟨(some 13), none, false, .mov (.t 6)⟩,
 ⟨(some 14), none, false, .bin .add (.t 13) (.k (.d (.int .i64 1)))⟩,
 ⟨(some 6), none, false, .mov (.t 14)⟩]))))))
theorem c140 : (Go.Proofs.Try.f140).body.bind (comp prog.P (3, (Go.Proofs.Try.f140).ntmps) lv140) = some m140 := by kernel_rfl
theorem r140 : resOK prog.P (Go.Proofs.Try.f140).results.toList = true := by kernel_rfl

/-- cmp.Less[int] -/
def lv146 : List (Nat × List Nat) := [(0, [0, 1]), (1, [4])]
def m146 : MC :=
  (.seq
 (.reg false [0, 1] [⟨(some 4), none, false, .mov (.k (.d (.bool false)))⟩])
 (.seq
 (.reg false [4] [⟨(some 5), none, false, .mov (.t 0)⟩,
 ⟨(some 6), none, true, .call 130 [(.t 5)]⟩,
 ⟨(some 7), none, false, .mov (.t 6)⟩,
 ⟨(some 8), (some (7, true)), false, .mov (.t 1)⟩,
 ⟨(some 9), (some (7, true)), true, .call 130 [(.t 8)]⟩,
 ⟨(some 10), (some (7, true)), false, .un .not (.t 9)⟩,
 ⟨(some 11), none, false, .pick (.t 7) (.t 10) (.k (.d (.bool false)))⟩,
 ⟨(some 12), none, false, .mov (.t 11)⟩,
 ⟨(some 13), (some (12, false)), false, .mov (.t 0)⟩,
 ⟨(some 14), (some (12, false)), false, .mov (.t 1)⟩,
 ⟨(some 15), (some (12, false)), false, .bin .lss (.t 13) (.t 14)⟩,
 ⟨(some 16), none, false, .pick (.t 12) (.k (.d (.bool true))) (.t 15)⟩,
 ⟨(some 4), none, false, .mov (.t 16)⟩])
 .ret))
theorem c146 : (Go.Proofs.Try.f146).body.bind (comp prog.P (2, (Go.Proofs.Try.f146).ntmps) lv146) = some m146 := by kernel_rfl
theorem r146 : resOK prog.P (Go.Proofs.Try.f146).results.toList = true := by kernel_rfl

/-- bits.Len64 -/
def lv150 : List (Nat × List Nat) := [(0, [0, 2]), (1, [0, 2, 4]), (2, [0]), (3, [0, 2]), (4, [0, 2, 8]), (5, [0, 2]), (6, [0, 2]), (7, [0, 2, 14]), (8, [0, 2]), (9, [0, 2]), (10, [2])]
def m150 : MC :=
  (.seq
 (.reg false [0, 2] [⟨(some 2), none, false, .mov (.k (.d (.int .i64 0)))⟩])
 (.seq
 (.seq
 (.reg false [0, 2, 4] [⟨(some 3), none, false, .mov (.t 0)⟩,
 ⟨(some 4), none, false, .bin .geq (.t 3) (.k (.d (.int .u64 4294967296)))⟩])
 (.cond (.t 4)
 (.seq
 (.reg false [0] [⟨(some 5), none, false, .mov (.t 0)⟩,
 ⟨(some 6), none, false, .shr (.t 5) (.k (.d (.int .u64 32)))⟩,
 ⟨(some 0), none, false, .mov (.t 6)⟩])
 (.reg false [0, 2] [⟨(some 2), none, false, .mov (.k (.d (.int .i64 32)))⟩]))
 .skip))
 (.seq
 (.seq
 (.reg false [0, 2, 8] [⟨(some 7), none, false, .mov (.t 0)⟩,
 ⟨(some 8), none, false, .bin .geq (.t 7) (.k (.d (.int .u64 65536)))⟩])
 (.cond (.t 8)
 (.seq
 (.reg false [0, 2] [⟨(some 9), none, false, .mov (.t 0)⟩,
 ⟨(some 10), none, false, .shr (.t 9) (.k (.d (.int .u64 16)))⟩,
 ⟨(some 0), none, false, .mov (.t 10)⟩])
 (.reg false [0, 2] [⟨(some 11), none, false, .mov (.t 2)⟩,
 ⟨(some 12), none, false, .bin .add (.t 11) (.k (.d (.int .i64 16)))⟩,
 ⟨(some 2), none, false, .mov (.t 12)⟩]))
 .skip))
 (.seq
 (.seq
 (.reg false [0, 2, 14] [⟨(some 13), none, false, .mov (.t 0)⟩,
 ⟨(some 14), none, false, .bin .geq (.t 13) (.k (.d (.int .u64 256)))⟩])
 (.cond (.t 14)
 (.seq
 (.reg false [0, 2] [⟨(some 15), none, false, .mov (.t 0)⟩,
 ⟨(some 16), none, false, .shr (.t 15) (.k (.d (.int .u64 8)))⟩,
 ⟨(some 0), none, false, .mov (.t 16)⟩])
 (.reg false [0, 2] [⟨(some 17), none, false, .mov (.t 2)⟩,
 ⟨(some 18), none, false, .bin .add (.t 17) (.k (.d (.int .i64 8)))⟩,
 ⟨(some 2), none, false, .mov (.t 18)⟩]))
 .skip))
 (.seq
 (.reg false [2] [⟨(some 19), none, false, .mov (.t 2)⟩,
 ⟨(some 20), none, false, .mov (.t 0)⟩,
 ⟨(some 21), none, false, .conv .u8 (.t 20)⟩,
 ⟨(some 22), none, false, .ix (.k (.d (.str [0, 1, 2, 2, 3, 3, 3, 3, 4, 4, 4, 4, 4, 4, 4, 4, 5, 5, 5, 5, 5, 5, 5, 5, 5, 5, 5, 5, 5, 5, 5, 5, 6, 6, 6, 6, 6, 6, 6, 6, 6, 6, 6, 6, 6, 6, 6, 6, 6, 6, 6, 6, 6, 6, 6, 6, 6, 6, 6, 6, 6, 6, 6, 6, 7, 7, 7, 7, 7, 7, 7, 7, 7, 7, 7, 7, 7, 7, 7, 7, 7, 7, 7, 7, 7, 7, 7, 7, 7, 7, 7, 7, 7, 7, 7, 7, 7, 7, 7, 7, 7, 7, 7, 7, 7, 7, 7, 7, 7, 7, 7, 7, 7, 7, 7, 7, 7, 7, 7, 7, 7, 7, 7, 7, 7, 7, 7, 7, 8, 8, 8, 8, 8, 8, 8, 8, 8, 8, 8, 8, 8, 8, 8, 8, 8, 8, 8, 8, 8, 8, 8, 8, 8, 8, 8, 8, 8, 8, 8, 8, 8, 8, 8, 8, 8, 8, 8, 8, 8, 8, 8, 8, 8, 8, 8, 8, 8, 8, 8, 8, 8, 8, 8, 8, 8, 8, 8, 8, 8, 8, 8, 8, 8, 8, 8, 8, 8, 8, 8, 8, 8, 8, 8, 8, 8, 8, 8, 8, 8, 8, 8, 8, 8, 8, 8, 8, 8, 8, 8, 8, 8, 8, 8, 8, 8, 8, 8, 8, 8, 8, 8, 8, 8, 8, 8, 8, 8, 8, 8, 8, 8, 8, 8, 8, 8, 8, 8, 8, 8, 8, 8, 8, 8, 8, 8, 8]))) (.t 21)⟩,
 ⟨(some 23), none, false, .conv .i64 (.t 22)⟩,
 ⟨(some 24), none, false, .bin .add (.t 19) (.t 23)⟩,
 ⟨(some 2), none, false, .mov (.t 24)⟩])
 .ret)))))
theorem c150 : (Go.Proofs.Try.f150).body.bind (comp prog.P (0, (Go.Proofs.Try.f150).ntmps) lv150) = some m150 := by kernel_rfl
theorem r150 : resOK prog.P (Go.Proofs.Try.f150).results.toList = true := by kernel_rfl

end Go.Pe.Try
