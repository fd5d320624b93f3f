/-
The compact code of the functions that the law reaches, printed by gen.py, each with the proof that the machine's code is compiled to it.
-/
import Derived.Test.YtpephpnbhlfdaaaPeC
import Derived.Test.YtpephpnbhlfdaaaProg
import Derived.KernelRfl
set_option maxRecDepth 100000
namespace Go.Pe.Try
open Go.Pe

/-- the program; of its start-up memory nothing is asked. -/
noncomputable def prog : PG := ⟨Go.Proofs.Try.prog, fun _ => True, fun _ _ _ _ h => h⟩

theorem sz41 : sizeOfT prog.P 41 = some 6 := by kernel_rfl

/-- laws.FnExactWaitFor -/
def lv4 : List (Nat × List Nat) := [(0, [0, 1]), (1, [0, 1, 5]), (2, [0, 1, 5]), (3, [0, 1, 20]), (4, [4]), (5, [0, 1, 6, 7]), (6, [0, 1, 6, 7, 8]), (7, [0, 1, 6, 7, 8, 9, 10]), (8, [0, 1, 6, 7, 8, 9, 10, 44]), (9, [4]), (10, [0, 1, 6, 7, 8, 9, 10, 49]), (11, [4]), (12, [0, 1, 6, 7, 8, 9, 10, 11]), (13, [0, 1, 6, 7, 9, 10, 11]), (14, [0, 1, 6, 7, 9, 65]), (15, [4]), (16, [0, 1, 6, 7, 9, 12]), (17, [0, 1, 6, 7, 9, 12]), (18, [0, 1, 6, 7, 9, 12, 13]), (19, [0, 1, 6, 7, 9, 12, 13]), (20, [0, 1, 6, 7, 9, 12, 13, 73]), (21, [4]), (22, [0, 1, 6, 7, 9, 12, 76]), (23, [4]), (24, [6, 7, 9, 12, 14, 15]), (25, [9, 12, 92]), (26, [4]), (27, [9, 12, 13]), (28, [12, 13]), (29, [12, 13, 97]), (30, [4]), (31, [100]), (32, [4]), (33, [4])]
def m4 : MC :=
  (.seq
 (.reg false [0, 1] [⟨(some 4), none, false, .mov (.k (.d (.bool false)))⟩])
 (.seq
 (.reg false [0, 1, 5] [⟨(some 5), none, false, .mov (.k (.d (.int .i64 1048576)))⟩])
 (.seq
 (.reg false [0, 1, 5] [⟨(some 16), none, false, .mov (.t 0)⟩,
 ⟨(some 17), none, false, .mov (.t 5)⟩,
 ⟨(some 18), none, true, .call 5 [(.t 16), (.t 17)]⟩,
 ⟨(some 5), none, false, .mov (.t 18)⟩])
 (.seq
 (.seq
 (.reg false [0, 1, 20] [⟨(some 19), none, false, .mov (.t 5)⟩,
 ⟨(some 20), none, false, .bin .lss (.t 19) (.k (.d (.int .i64 0)))⟩])
 (.cond (.t 20)
 (.seq
 (.reg false [4] [⟨(some 4), none, false, .mov (.k (.d (.bool true)))⟩])
 .ret)
 .skip))
 (.seq
 (.reg false [0, 1, 6, 7] [⟨(some 22), none, false, .mov (.t 0)⟩,
 ⟨(some 23), none, true, .call 7 [(.t 22)]⟩,
 ⟨(some 24), none, false, .mov (.t 1)⟩,
 ⟨(some 25), none, true, .call 12 [(.t 23), (.t 24)]⟩,
 ⟨(some 21), none, false, .mov (.t 25)⟩,
 ⟨(some 26), none, false, .ext (.t 21) 0⟩,
 ⟨(some 27), none, false, .ext (.t 21) 1⟩,
 ⟨(some 6), none, false, .mov (.t 26)⟩,
 ⟨(some 7), none, false, .mov (.t 27)⟩])
 (.seq
 (.reg false [0, 1, 6, 7, 8] [⟨(some 28), none, false, .mov (.t 0)⟩,
 ⟨(some 29), none, true, .call 7 [(.t 28)]⟩,
 ⟨(some 8), none, false, .mov (.t 29)⟩])
 (.seq
 (.reg false [0, 1, 6, 7, 8, 9, 10] [⟨(some 31), none, false, .mov (.t 8)⟩,
 ⟨(some 32), none, false, .mov (.t 1)⟩,
 ⟨(some 33), none, true, .call 13 [(.t 31), (.t 32)]⟩,
 ⟨(some 30), none, false, .mov (.t 33)⟩,
 ⟨(some 34), none, false, .ext (.t 30) 0⟩,
 ⟨(some 35), none, false, .ext (.t 30) 1⟩,
 ⟨(some 9), none, false, .mov (.t 34)⟩,
 ⟨(some 10), none, false, .mov (.t 35)⟩])
 (.seq
 (.seq
 (.reg false [0, 1, 6, 7, 8, 9, 10, 44] [⟨(some 36), none, false, .mov (.t 9)⟩,
 ⟨(some 37), none, false, .mov (.t 6)⟩,
 ⟨(some 38), none, true, .call 14 [(.t 36), (.t 37)]⟩,
 ⟨(some 39), none, false, .un .not (.t 38)⟩,
 ⟨(some 40), none, false, .mov (.t 39)⟩,
 ⟨(some 41), (some (40, false)), false, .mov (.t 10)⟩,
 ⟨(some 42), (some (40, false)), false, .mov (.t 7)⟩,
 ⟨(some 43), (some (40, false)), false, .bb .neq (.t 41) (.t 42)⟩,
 ⟨(some 44), none, false, .pick (.t 40) (.k (.d (.bool true))) (.t 43)⟩])
 (.cond (.t 44)
 (.seq
 (.reg false [4] [⟨(some 4), none, false, .mov (.k (.d (.bool false)))⟩])
 .ret)
 .skip))
 (.seq
 (.seq
 (.reg false [0, 1, 6, 7, 8, 9, 10, 49] [⟨(some 45), none, false, .mov (.t 8)⟩,
 ⟨(some 46), none, false, .mov (.t 0)⟩,
 ⟨(some 47), none, true, .call 7 [(.t 46)]⟩,
 ⟨(some 48), none, true, .call 9 [(.t 45), (.t 47)]⟩,
 ⟨(some 49), none, false, .un .not (.t 48)⟩])
 (.cond (.t 49)
 (.seq
 (.reg false [4] [⟨(some 4), none, false, .mov (.k (.d (.bool false)))⟩])
 .ret)
 .skip))
 (.seq
 (.reg false [0, 1, 6, 7, 8, 9, 10, 11] [⟨(some 11), none, false, .mov (.k (.d (.int .i64 1)))⟩])
 (.seq
 (.reg false [0, 1, 6, 7, 9, 10, 11] [⟨(some 50), none, false, .mov (.t 8)⟩,
 ⟨(some 51), none, false, .mov (.t 11)⟩,
 ⟨(some 52), none, true, .call 10 [(.t 50), (.t 51)]⟩,
 ⟨(some 11), none, false, .mov (.t 52)⟩])
 (.seq
 (.seq
 (.reg false [0, 1, 6, 7, 9, 65] [⟨(some 53), none, false, .mov (.t 11)⟩,
 ⟨(some 54), none, false, .bin .lss (.t 53) (.k (.d (.int .i64 0)))⟩,
 ⟨(some 55), none, false, .mov (.t 54)⟩,
 ⟨(some 56), (some (55, false)), false, .mov (.t 9)⟩,
 ⟨(some 57), (some (55, false)), false, .mov (.t 6)⟩,
 ⟨(some 58), (some (55, false)), true, .call 14 [(.t 56), (.t 57)]⟩,
 ⟨(some 59), (some (55, false)), false, .un .not (.t 58)⟩,
 ⟨(some 60), none, false, .pick (.t 55) (.k (.d (.bool true))) (.t 59)⟩,
 ⟨(some 61), none, false, .mov (.t 60)⟩,
 ⟨(some 62), (some (61, false)), false, .mov (.t 10)⟩,
 ⟨(some 63), (some (61, false)), false, .mov (.t 7)⟩,
 ⟨(some 64), (some (61, false)), false, .bb .neq (.t 62) (.t 63)⟩,
 ⟨(some 65), none, false, .pick (.t 61) (.k (.d (.bool true))) (.t 64)⟩])
 (.cond (.t 65)
 (.seq
 (.reg false [4] [⟨(some 4), none, false, .mov (.k (.d (.bool false)))⟩])
 .ret)
 .skip))
 (.seq
 (.reg false [0, 1, 6, 7, 9, 12] [⟨(some 12), none, false, .mov (.k (.d (.int .i64 1)))⟩])
 (.seq
 (.reg false [0, 1, 6, 7, 9, 12] [⟨(some 66), none, false, .mov (.t 9)⟩,
 ⟨(some 67), none, false, .mov (.t 12)⟩,
 ⟨(some 68), none, true, .call 15 [(.t 66), (.t 67)]⟩,
 ⟨(some 12), none, false, .mov (.t 68)⟩])
 (.seq
 (.reg false [0, 1, 6, 7, 9, 12, 13] [⟨(some 13), none, false, .mov (.k (.d (.int .i64 1)))⟩])
 (.seq
 (.reg false [0, 1, 6, 7, 9, 12, 13] [⟨(some 69), none, false, .mov (.t 9)⟩,
 ⟨(some 70), none, false, .mov (.t 13)⟩,
 ⟨(some 71), none, true, .call 16 [(.t 69), (.t 70)]⟩,
 ⟨(some 13), none, false, .mov (.t 71)⟩])
 (.seq
 (.seq
 (.reg false [0, 1, 6, 7, 9, 12, 13, 73] [⟨(some 72), none, false, .mov (.t 13)⟩,
 ⟨(some 73), none, false, .bin .lss (.t 72) (.k (.d (.int .i64 0)))⟩])
 (.cond (.t 73)
 (.seq
 (.reg false [4] [⟨(some 4), none, false, .mov (.k (.d (.bool false)))⟩])
 .ret)
 .skip))
 (.seq
 (.seq
 (.reg false [0, 1, 6, 7, 9, 12, 76] [⟨(some 74), none, false, .mov (.t 13)⟩,
 ⟨(some 75), none, false, .mov (.t 12)⟩,
 ⟨(some 76), none, false, .bin .neq (.t 74) (.t 75)⟩])
 (.cond (.t 76)
 (.seq
 (.reg false [4] [⟨(some 4), none, false, .mov (.k (.d (.bool false)))⟩])
 .ret)
 .skip))
 (.seq
 (.reg false [6, 7, 9, 12, 14, 15] [⟨(some 78), none, false, .mov (.t 0)⟩,
 ⟨(some 79), none, true, .call 7 [(.t 78)]⟩,
 ⟨(some 80), none, false, .mov (.t 1)⟩,
 ⟨(some 81), none, true, .call 13 [(.t 79), (.t 80)]⟩,
 ⟨(some 77), none, false, .mov (.t 81)⟩,
 ⟨(some 82), none, false, .ext (.t 77) 0⟩,
 ⟨(some 83), none, false, .ext (.t 77) 1⟩,
 ⟨(some 14), none, false, .mov (.t 82)⟩,
 ⟨(some 15), none, false, .mov (.t 83)⟩])
 (.seq
 (.seq
 (.reg false [9, 12, 92] [⟨(some 84), none, false, .mov (.t 14)⟩,
 ⟨(some 85), none, false, .mov (.t 6)⟩,
 ⟨(some 86), none, true, .call 14 [(.t 84), (.t 85)]⟩,
 ⟨(some 87), none, false, .un .not (.t 86)⟩,
 ⟨(some 88), none, false, .mov (.t 87)⟩,
 ⟨(some 89), (some (88, false)), false, .mov (.t 15)⟩,
 ⟨(some 90), (some (88, false)), false, .mov (.t 7)⟩,
 ⟨(some 91), (some (88, false)), false, .bb .neq (.t 89) (.t 90)⟩,
 ⟨(some 92), none, false, .pick (.t 88) (.k (.d (.bool true))) (.t 91)⟩])
 (.cond (.t 92)
 (.seq
 (.reg false [4] [⟨(some 4), none, false, .mov (.k (.d (.bool false)))⟩])
 .ret)
 .skip))
 (.seq
 (.reg false [9, 12, 13] [⟨(some 13), none, false, .mov (.k (.d (.int .i64 1)))⟩])
 (.seq
 (.reg false [12, 13] [⟨(some 93), none, false, .mov (.t 9)⟩,
 ⟨(some 94), none, false, .mov (.t 13)⟩,
 ⟨(some 95), none, true, .call 16 [(.t 93), (.t 94)]⟩,
 ⟨(some 13), none, false, .mov (.t 95)⟩])
 (.seq
 (.seq
 (.reg false [12, 13, 97] [⟨(some 96), none, false, .mov (.t 13)⟩,
 ⟨(some 97), none, false, .bin .lss (.t 96) (.k (.d (.int .i64 0)))⟩])
 (.cond (.t 97)
 (.seq
 (.reg false [4] [⟨(some 4), none, false, .mov (.k (.d (.bool false)))⟩])
 .ret)
 .skip))
 (.seq
 (.seq
 (.reg false [100] [⟨(some 98), none, false, .mov (.t 13)⟩,
 ⟨(some 99), none, false, .mov (.t 12)⟩,
 ⟨(some 100), none, false, .bin .neq (.t 98) (.t 99)⟩])
 (.cond (.t 100)
 (.seq
 (.reg false [4] [⟨(some 4), none, false, .mov (.k (.d (.bool false)))⟩])
 .ret)
 .skip))
 (.seq
 (.reg false [4] [⟨(some 4), none, false, .mov (.k (.d (.bool true)))⟩])
 .ret)))))))))))))))))))))))))
theorem c4 : (Go.Proofs.Try.f4).body.bind (comp prog.P (2, (Go.Proofs.Try.f4).ntmps) lv4) = some m4 := by kernel_rfl
theorem r4 : resOK prog.P (Go.Proofs.Try.f4).results.toList = true := by kernel_rfl

/-- laws.szAppealS -/
def lv5 : List (Nat × List Nat) := [(0, [0, 1]), (1, [0, 1]), (2, [0, 1, 11]), (3, [4]), (4, [0, 1, 5]), (5, [0, 1, 5, 15]), (6, [0, 1, 5]), (7, [0, 1, 5]), (8, [0, 1, 5, 25]), (9, [4]), (10, [4])]
def m5 : MC :=
  (.seq
 (.reg false [0, 1] [⟨(some 4), none, false, .mov (.k (.d (.int .i64 0)))⟩])
 (.seq
 (.reg false [0, 1] [⟨(some 6), none, false, .mov (.t 1)⟩,
 ⟨(some 7), none, false, .mov (.t 0)⟩,
 ⟨(some 8), none, false, .len false (.t 7)⟩,
 ⟨(some 9), none, false, .bin .sub (.t 6) (.t 8)⟩,
 ⟨(some 1), none, false, .mov (.t 9)⟩])
 (.seq
 (.seq
 (.reg false [0, 1, 11] [⟨(some 10), none, false, .mov (.t 1)⟩,
 ⟨(some 11), none, false, .bin .lss (.t 10) (.k (.d (.int .i64 0)))⟩])
 (.cond (.t 11)
 (.seq
 (.reg false [4] [⟨(some 4), none, false, .mov (.k (.d (.int .i64 (-1))))⟩])
 .ret)
 .skip))
 (.seq
 (.seq
 (.reg false [0, 1, 5] [⟨(some 5), none, false, .mov (.k (.d (.int .i64 0)))⟩])
 (.block 0
 (.loop
 (.seq
 (.seq
 (.reg false [0, 1, 5, 15] [⟨(some 12), none, false, .mov (.t 5)⟩,
 ⟨(some 13), none, false, .mov (.t 0)⟩,
 ⟨(some 14), none, false, .len false (.t 13)⟩,
 ⟨(some 15), none, false, .bin .lss (.t 12) (.t 14)⟩])
 (.cond (.t 15)
 .skip
 (.exit 0)))
 (.seq
 (.block 1
 (.seq
 (.reg false [0, 1, 5] [⟨(some 18), none, false, .mov (.t 0)⟩,
 ⟨(some 19), none, false, .mov (.t 5)⟩,
 ⟨(some 20), none, false, .ia 6 (.t 18) (.t 19)⟩,
 ⟨(some 21), none, false, .ld (some 6) (.t 20)⟩,
 ⟨(some 22), none, false, .mov (.t 1)⟩,
 ⟨(some 23), none, true, .call 17 [(.t 21), (.t 22)]⟩,
 ⟨(some 1), none, false, .mov (.t 23)⟩])
 (.seq
 (.reg false [0, 1, 5, 25] [⟨(some 24), none, false, .mov (.t 1)⟩,
 ⟨(some 25), none, false, .bin .lss (.t 24) (.k (.d (.int .i64 0)))⟩])
 (.cond (.t 25)
 (.seq
 (.reg false [4] [⟨(some 4), none, false, .mov (.k (.d (.int .i64 (-1))))⟩])
 .ret)
 .skip))))
 (.reg false [0, 1, 5] [⟨(some 16), none, false, .mov (.t 5)⟩,
 ⟨(some 17), none, false, .bin .add (.t 16) (.k (.d (.int .i64 1)))⟩,
 ⟨(some 5), none, false, .mov (.t 17)⟩]))))))
 (.seq
 (.reg false [4] [⟨(some 26), none, false, .mov (.t 1)⟩,
 ⟨(some 4), none, false, .mov (.t 26)⟩])
 .ret)))))
theorem c5 : (Go.Proofs.Try.f5).body.bind (comp prog.P (1, (Go.Proofs.Try.f5).ntmps) lv5) = some m5 := by kernel_rfl
theorem r5 : resOK prog.P (Go.Proofs.Try.f5).results.toList = true := by kernel_rfl

/-- laws.toAppealS -/
def lv7 : List (Nat × List Nat) := [(0, [0]), (1, [0, 3]), (2, [0, 3, 4]), (3, [0, 3, 4, 11]), (4, [0, 3, 4]), (5, [0, 3, 4]), (6, [2])]
def m7 : MC :=
  (.seq
 (.reg false [0] [⟨(some 2), none, false, .mov (.k .nil)⟩])
 (.seq
 (.reg false [0, 3] [⟨(some 5), none, false, .mov (.t 0)⟩,
 ⟨(some 6), none, false, .len false (.t 5)⟩,
 ⟨(some 7), none, true, .mk 6 80 (.st (.cons (.int .i64 0) (.cons (.int .i64 0) (.cons (.int .i64 0) (.cons (.sl true 1 .nil) (.cons (.sl true 1 .nil) (.cons (.int .i64 0) .nil))))))) (.t 6)⟩,
 ⟨(some 3), none, false, .mov (.t 7)⟩])
 (.seq
 (.seq
 (.reg false [0, 3, 4] [⟨(some 4), none, false, .mov (.k (.d (.int .i64 0)))⟩])
 (.block 0
 (.loop
 (.seq
 (.seq
 (.reg false [0, 3, 4, 11] [⟨(some 8), none, false, .mov (.t 4)⟩,
 ⟨(some 9), none, false, .mov (.t 0)⟩,
 ⟨(some 10), none, false, .len false (.t 9)⟩,
 ⟨(some 11), none, false, .bin .lss (.t 8) (.t 10)⟩])
 (.cond (.t 11)
 .skip
 (.exit 0)))
 (.seq
 (.block 1
 (.reg false [0, 3, 4] [⟨(some 14), none, false, .mov (.t 3)⟩,
 ⟨(some 15), none, false, .mov (.t 4)⟩,
 ⟨(some 16), none, false, .mov (.t 0)⟩,
 ⟨(some 17), none, false, .mov (.t 4)⟩,
 ⟨(some 18), none, false, .ia 6 (.t 16) (.t 17)⟩,
 ⟨(some 19), none, false, .ld (some 6) (.t 18)⟩,
 ⟨(some 20), none, true, .call 23 [(.t 19)]⟩,
 ⟨(some 21), none, false, .ia 6 (.t 14) (.t 15)⟩,
 ⟨none, none, true, .st 6 (.t 21) (.t 20)⟩]))
 (.reg false [0, 3, 4] [⟨(some 12), none, false, .mov (.t 4)⟩,
 ⟨(some 13), none, false, .bin .add (.t 12) (.k (.d (.int .i64 1)))⟩,
 ⟨(some 4), none, false, .mov (.t 13)⟩]))))))
 (.seq
 (.reg false [2] [⟨(some 22), none, false, .mov (.t 3)⟩,
 ⟨(some 2), none, false, .mov (.t 22)⟩])
 .ret))))
theorem c7 : (Go.Proofs.Try.f7).body.bind (comp prog.P (1, (Go.Proofs.Try.f7).ntmps) lv7) = some m7 := by kernel_rfl
theorem r7 : resOK prog.P (Go.Proofs.Try.f7).results.toList = true := by kernel_rfl

/-- impl.HearParty -/
def lv8 : List (Nat × List Nat) := [(0, [0, 1, 2]), (1, [0, 2, 8]), (2, [0, 2, 8, 29]), (3, [6, 7]), (4, [2, 8, 9]), (5, [2, 9, 10]), (6, [9, 10]), (7, [9, 10]), (8, [9, 10, 60]), (9, [9]), (10, [6, 7])]
def m8 : MC :=
  (.seq
 (.reg false [0, 1, 2] [⟨(some 6), none, false, .mov (.k .nil)⟩,
 ⟨(some 7), none, false, .mov (.k (.d (.bool false)))⟩])
 (.seq
 (.reg false [0, 2, 8] [⟨(some 11), none, false, .mov (.t 0)⟩,
 ⟨(some 12), none, false, .mov (.t 1)⟩,
 ⟨(some 13), none, true, .call 24 [(.t 11), (.t 12)]⟩,
 ⟨(some 8), none, false, .mov (.t 13)⟩])
 (.seq
 (.seq
 (.reg false [0, 2, 8, 29] [⟨(some 14), none, false, .mov (.t 0)⟩,
 ⟨(some 15), none, true, .call 25 [(.t 14)]⟩,
 ⟨(some 16), none, false, .un .not (.t 15)⟩,
 ⟨(some 17), none, false, .mov (.t 16)⟩,
 ⟨(some 18), (some (17, false)), false, .mov (.t 8)⟩,
 ⟨(some 19), (some (17, false)), false, .bin .lss (.t 18) (.k (.d (.int .i64 0)))⟩,
 ⟨(some 20), none, false, .pick (.t 17) (.k (.d (.bool true))) (.t 19)⟩,
 ⟨(some 21), none, false, .mov (.t 20)⟩,
 ⟨(some 22), (some (21, false)), false, .mov (.t 0)⟩,
 ⟨(some 23), (some (21, false)), false, .mov (.t 8)⟩,
 ⟨(some 24), (some (21, false)), false, .ia 6 (.t 22) (.t 23)⟩,
 ⟨(some 25), (some (21, false)), false, .ld (some 6) (.t 24)⟩,
 ⟨(some 26), (some (21, false)), false, .mov (.t 2)⟩,
 ⟨(some 27), (some (21, false)), true, .call 26 [(.t 25), (.t 26)]⟩,
 ⟨(some 28), (some (21, false)), false, .un .not (.t 27)⟩,
 ⟨(some 29), none, false, .pick (.t 21) (.k (.d (.bool true))) (.t 28)⟩])
 (.cond (.t 29)
 (.seq
 (.reg false [6, 7] [⟨(some 6), none, false, .mov (.k .nil)⟩,
 ⟨(some 7), none, false, .mov (.k (.d (.bool false)))⟩])
 .ret)
 .skip))
 (.seq
 (.reg false [2, 8, 9] [⟨(some 30), none, false, .mov (.t 0)⟩,
 ⟨(some 31), none, true, .call 27 [(.t 30)]⟩,
 ⟨(some 9), none, false, .mov (.t 31)⟩])
 (.seq
 (.reg false [2, 9, 10] [⟨(some 32), none, false, .mov (.t 9)⟩,
 ⟨(some 33), none, false, .mov (.t 8)⟩,
 ⟨(some 34), none, false, .ia 6 (.t 32) (.t 33)⟩,
 ⟨(some 10), none, false, .mov (.t 34)⟩])
 (.seq
 (.reg false [9, 10] [⟨(some 35), none, false, .mov (.t 10)⟩,
 ⟨(some 36), none, false, .mov (.t 10)⟩,
 ⟨(some 37), none, false, .nck (.t 36)⟩,
 ⟨(some 38), none, false, .fa 4 4 (.t 37)⟩,
 ⟨(some 39), none, false, .ld none (.t 38)⟩,
 ⟨(some 40), none, false, .mov (.t 2)⟩,
 ⟨(some 41), none, true, .bs 1 1 (.int .i64 0) [(0, (.t 40))]⟩,
 ⟨(some 42), none, true, .app 1 8 (.t 39) (.t 41)⟩,
 ⟨(some 43), none, false, .nck (.t 35)⟩,
 ⟨(some 44), none, false, .fa 4 4 (.t 43)⟩,
 ⟨none, none, true, .st 1 (.t 44) (.t 42)⟩])
 (.seq
 (.reg false [9, 10] [⟨(some 45), none, false, .mov (.t 10)⟩,
 ⟨(some 46), none, false, .nck (.t 45)⟩,
 ⟨(some 47), none, false, .fa 4 4 (.t 46)⟩,
 ⟨(some 48), none, false, .ld none (.t 47)⟩,
 ⟨(some 49), none, true, .call 28 [(.t 48)]⟩])
 (.seq
 (.seq
 (.reg true [9, 10, 60] [⟨(some 50), none, false, .mov (.t 10)⟩,
 ⟨(some 51), none, false, .nck (.t 50)⟩,
 ⟨(some 52), none, false, .fa 4 4 (.t 51)⟩,
 ⟨(some 53), none, false, .ld none (.t 52)⟩,
 ⟨(some 54), none, false, .len false (.t 53)⟩,
 ⟨(some 55), none, false, .mov (.t 10)⟩,
 ⟨(some 56), none, false, .nck (.t 55)⟩,
 ⟨(some 57), none, false, .fa 3 3 (.t 56)⟩,
 ⟨(some 58), none, false, .ld none (.t 57)⟩,
 ⟨(some 59), none, false, .len false (.t 58)⟩,
 ⟨(some 60), none, false, .bin .eql (.t 54) (.t 59)⟩])
 (.cond (.t 60)
 (.reg false [9] [⟨(some 61), none, false, .mov (.t 10)⟩,
 ⟨(some 62), none, false, .nck (.t 61)⟩,
 ⟨(some 63), none, false, .fa 5 5 (.t 62)⟩,
 ⟨none, none, true, .st 1 (.t 63) (.k (.d (.int .i64 1)))⟩])
 .skip))
 (.seq
 (.reg false [6, 7] [⟨(some 64), none, false, .mov (.t 9)⟩,
 ⟨(some 6), none, false, .mov (.t 64)⟩,
 ⟨(some 7), none, false, .mov (.k (.d (.bool true)))⟩])
 .ret)))))))))
theorem c8 : (Go.Proofs.Try.f8).body.bind (comp prog.P (3, (Go.Proofs.Try.f8).ntmps) lv8) = some m8 := by kernel_rfl
theorem r8 : resOK prog.P (Go.Proofs.Try.f8).results.toList = true := by kernel_rfl

/-- laws.eqAppealS -/
def lv9 : List (Nat × List Nat) := [(0, [0, 1]), (1, [0, 1, 10]), (2, [4]), (3, [0, 1, 5]), (4, [0, 1, 5, 14]), (5, [0, 1, 5]), (6, [0, 1, 5, 26]), (7, [4]), (8, [4])]
def m9 : MC :=
  (.seq
 (.reg false [0, 1] [⟨(some 4), none, false, .mov (.k (.d (.bool false)))⟩])
 (.seq
 (.seq
 (.reg false [0, 1, 10] [⟨(some 6), none, false, .mov (.t 0)⟩,
 ⟨(some 7), none, false, .len false (.t 6)⟩,
 ⟨(some 8), none, false, .mov (.t 1)⟩,
 ⟨(some 9), none, false, .len false (.t 8)⟩,
 ⟨(some 10), none, false, .bin .neq (.t 7) (.t 9)⟩])
 (.cond (.t 10)
 (.seq
 (.reg false [4] [⟨(some 4), none, false, .mov (.k (.d (.bool false)))⟩])
 .ret)
 .skip))
 (.seq
 (.seq
 (.reg false [0, 1, 5] [⟨(some 5), none, false, .mov (.k (.d (.int .i64 0)))⟩])
 (.block 0
 (.loop
 (.seq
 (.seq
 (.reg false [0, 1, 5, 14] [⟨(some 11), none, false, .mov (.t 5)⟩,
 ⟨(some 12), none, false, .mov (.t 0)⟩,
 ⟨(some 13), none, false, .len false (.t 12)⟩,
 ⟨(some 14), none, false, .bin .lss (.t 11) (.t 13)⟩])
 (.cond (.t 14)
 .skip
 (.exit 0)))
 (.seq
 (.block 1
 (.seq
 (.reg true [0, 1, 5, 26] [⟨(some 17), none, false, .mov (.t 0)⟩,
 ⟨(some 18), none, false, .mov (.t 5)⟩,
 ⟨(some 19), none, false, .ia 6 (.t 17) (.t 18)⟩,
 ⟨(some 20), none, false, .ld (some 6) (.t 19)⟩,
 ⟨(some 21), none, false, .mov (.t 1)⟩,
 ⟨(some 22), none, false, .mov (.t 5)⟩,
 ⟨(some 23), none, false, .ia 6 (.t 21) (.t 22)⟩,
 ⟨(some 24), none, false, .ld (some 6) (.t 23)⟩,
 ⟨(some 25), none, false, .callP 29 [(.t 20), (.t 24)]⟩,
 ⟨(some 26), none, false, .un .not (.t 25)⟩])
 (.cond (.t 26)
 (.seq
 (.reg false [4] [⟨(some 4), none, false, .mov (.k (.d (.bool false)))⟩])
 .ret)
 .skip)))
 (.reg false [0, 1, 5] [⟨(some 15), none, false, .mov (.t 5)⟩,
 ⟨(some 16), none, false, .bin .add (.t 15) (.k (.d (.int .i64 1)))⟩,
 ⟨(some 5), none, false, .mov (.t 16)⟩]))))))
 (.seq
 (.reg false [4] [⟨(some 4), none, false, .mov (.k (.d (.bool true)))⟩])
 .ret))))
theorem c9 : (Go.Proofs.Try.f9).body.bind (comp prog.P (2, (Go.Proofs.Try.f9).ntmps) lv9) = some m9 := by kernel_rfl
theorem r9 : resOK prog.P (Go.Proofs.Try.f9).results.toList = true := by kernel_rfl

/-- laws.markAppealS -/
def lv10 : List (Nat × List Nat) := [(0, [0, 1]), (1, [0, 1, 5]), (2, [0, 1, 5, 9]), (3, [0, 1, 5]), (4, [0, 1, 5]), (5, [0, 1, 5]), (6, [0, 1, 5]), (7, [0, 1, 5]), (8, [0, 1, 5]), (9, [0, 1, 5]), (10, [0, 1, 5]), (11, [0, 1, 5]), (12, [0, 1, 5]), (13, [0, 1, 5]), (14, [0, 4])]
def m10 : MC :=
  (.seq
 (.reg false [0, 1] [⟨(some 4), none, false, .mov (.k (.d (.int .i64 0)))⟩])
 (.seq
 (.seq
 (.reg false [0, 1, 5] [⟨(some 5), none, false, .mov (.k (.d (.int .i64 0)))⟩])
 (.block 0
 (.loop
 (.seq
 (.seq
 (.reg false [0, 1, 5, 9] [⟨(some 6), none, false, .mov (.t 5)⟩,
 ⟨(some 7), none, false, .mov (.t 0)⟩,
 ⟨(some 8), none, false, .len false (.t 7)⟩,
 ⟨(some 9), none, false, .bin .lss (.t 6) (.t 8)⟩])
 (.cond (.t 9)
 .skip
 (.exit 0)))
 (.seq
 (.block 1
 (.seq
 (.reg false [0, 1, 5] [⟨(some 12), none, false, .mov (.t 0)⟩,
 ⟨(some 13), none, false, .mov (.t 5)⟩,
 ⟨(some 14), none, false, .mov (.t 1)⟩,
 ⟨(some 15), none, false, .ia 6 (.t 12) (.t 13)⟩,
 ⟨(some 16), none, false, .fa 0 0 (.t 15)⟩,
 ⟨none, none, true, .st 1 (.t 16) (.t 14)⟩])
 (.seq
 (.reg false [0, 1, 5] [⟨(some 17), none, false, .mov (.t 1)⟩,
 ⟨(some 18), none, false, .bin .add (.t 17) (.k (.d (.int .i64 1)))⟩,
 ⟨(some 1), none, false, .mov (.t 18)⟩])
 (.seq
 (.reg false [0, 1, 5] [⟨(some 19), none, false, .mov (.t 0)⟩,
 ⟨(some 20), none, false, .mov (.t 5)⟩,
 ⟨(some 21), none, false, .mov (.t 1)⟩,
 ⟨(some 22), none, false, .ia 6 (.t 19) (.t 20)⟩,
 ⟨(some 23), none, false, .fa 1 1 (.t 22)⟩,
 ⟨none, none, true, .st 1 (.t 23) (.t 21)⟩])
 (.seq
 (.reg false [0, 1, 5] [⟨(some 24), none, false, .mov (.t 1)⟩,
 ⟨(some 25), none, false, .bin .add (.t 24) (.k (.d (.int .i64 1)))⟩,
 ⟨(some 1), none, false, .mov (.t 25)⟩])
 (.seq
 (.reg false [0, 1, 5] [⟨(some 26), none, false, .mov (.t 0)⟩,
 ⟨(some 27), none, false, .mov (.t 5)⟩,
 ⟨(some 28), none, false, .mov (.t 1)⟩,
 ⟨(some 29), none, false, .ia 6 (.t 26) (.t 27)⟩,
 ⟨(some 30), none, false, .fa 2 2 (.t 29)⟩,
 ⟨none, none, true, .st 1 (.t 30) (.t 28)⟩])
 (.seq
 (.reg false [0, 1, 5] [⟨(some 31), none, false, .mov (.t 1)⟩,
 ⟨(some 32), none, false, .bin .add (.t 31) (.k (.d (.int .i64 1)))⟩,
 ⟨(some 1), none, false, .mov (.t 32)⟩])
 (.seq
 (.reg false [0, 1, 5] [⟨(some 33), none, false, .mov (.t 0)⟩,
 ⟨(some 34), none, false, .mov (.t 5)⟩,
 ⟨(some 35), none, false, .ia 6 (.t 33) (.t 34)⟩,
 ⟨(some 36), none, false, .fa 3 3 (.t 35)⟩,
 ⟨(some 37), none, false, .ld none (.t 36)⟩,
 ⟨(some 38), none, false, .mov (.t 1)⟩,
 ⟨(some 39), none, true, .call 15 [(.t 37), (.t 38)]⟩,
 ⟨(some 1), none, false, .mov (.t 39)⟩])
 (.seq
 (.reg false [0, 1, 5] [⟨(some 40), none, false, .mov (.t 0)⟩,
 ⟨(some 41), none, false, .mov (.t 5)⟩,
 ⟨(some 42), none, false, .ia 6 (.t 40) (.t 41)⟩,
 ⟨(some 43), none, false, .fa 4 4 (.t 42)⟩,
 ⟨(some 44), none, false, .ld none (.t 43)⟩,
 ⟨(some 45), none, false, .mov (.t 1)⟩,
 ⟨(some 46), none, true, .call 15 [(.t 44), (.t 45)]⟩,
 ⟨(some 1), none, false, .mov (.t 46)⟩])
 (.seq
 (.reg false [0, 1, 5] [⟨(some 47), none, false, .mov (.t 0)⟩,
 ⟨(some 48), none, false, .mov (.t 5)⟩,
 ⟨(some 49), none, false, .mov (.t 1)⟩,
 ⟨(some 50), none, false, .ia 6 (.t 47) (.t 48)⟩,
 ⟨(some 51), none, false, .fa 5 5 (.t 50)⟩,
 ⟨none, none, true, .st 1 (.t 51) (.t 49)⟩])
 (.reg false [0, 1, 5] [⟨(some 52), none, false, .mov (.t 1)⟩,
 ⟨(some 53), none, false, .bin .add (.t 52) (.k (.d (.int .i64 1)))⟩,
 ⟨(some 1), none, false, .mov (.t 53)⟩])))))))))))
 (.reg false [0, 1, 5] [⟨(some 10), none, false, .mov (.t 5)⟩,
 ⟨(some 11), none, false, .bin .add (.t 10) (.k (.d (.int .i64 1)))⟩,
 ⟨(some 5), none, false, .mov (.t 11)⟩]))))))
 (.seq
 (.reg false [0, 4] [⟨(some 54), none, false, .mov (.t 1)⟩,
 ⟨(some 4), none, false, .mov (.t 54)⟩])
 .ret)))
theorem c10 : (Go.Proofs.Try.f10).body.bind (comp prog.P (1, (Go.Proofs.Try.f10).ntmps) lv10) = some m10 := by kernel_rfl
theorem r10 : resOK prog.P (Go.Proofs.Try.f10).results.toList = true := by kernel_rfl

/-- laws.heldAppealS -/
def lv11 : List (Nat × List Nat) := [(0, [0, 1]), (1, [0, 1, 5]), (2, [0, 1, 5, 9]), (3, [0, 1, 5]), (4, [0, 1, 5, 18]), (5, [4]), (6, [0, 1, 5]), (7, [0, 1, 5, 27]), (8, [4]), (9, [0, 1, 5]), (10, [0, 1, 5, 36]), (11, [4]), (12, [0, 1, 5]), (13, [0, 1, 5]), (14, [0, 1, 5, 47]), (15, [4]), (16, [0, 1, 5]), (17, [0, 1, 5, 56]), (18, [4]), (19, [0, 1, 5, 63]), (20, [4]), (21, [0, 1, 5]), (22, [4])]
def m11 : MC :=
  (.seq
 (.reg false [0, 1] [⟨(some 4), none, false, .mov (.k (.d (.int .i64 0)))⟩])
 (.seq
 (.seq
 (.reg false [0, 1, 5] [⟨(some 5), none, false, .mov (.k (.d (.int .i64 0)))⟩])
 (.block 0
 (.loop
 (.seq
 (.seq
 (.reg false [0, 1, 5, 9] [⟨(some 6), none, false, .mov (.t 5)⟩,
 ⟨(some 7), none, false, .mov (.t 0)⟩,
 ⟨(some 8), none, false, .len false (.t 7)⟩,
 ⟨(some 9), none, false, .bin .lss (.t 6) (.t 8)⟩])
 (.cond (.t 9)
 .skip
 (.exit 0)))
 (.seq
 (.block 1
 (.seq
 (.seq
 (.reg false [0, 1, 5, 18] [⟨(some 12), none, false, .mov (.t 0)⟩,
 ⟨(some 13), none, false, .mov (.t 5)⟩,
 ⟨(some 14), none, false, .ia 6 (.t 12) (.t 13)⟩,
 ⟨(some 15), none, false, .fa 0 0 (.t 14)⟩,
 ⟨(some 16), none, false, .ld none (.t 15)⟩,
 ⟨(some 17), none, false, .mov (.t 1)⟩,
 ⟨(some 18), none, false, .bin .neq (.t 16) (.t 17)⟩])
 (.cond (.t 18)
 (.seq
 (.reg false [4] [⟨(some 4), none, false, .mov (.k (.d (.int .i64 (-1))))⟩])
 .ret)
 .skip))
 (.seq
 (.reg false [0, 1, 5] [⟨(some 19), none, false, .mov (.t 1)⟩,
 ⟨(some 20), none, false, .bin .add (.t 19) (.k (.d (.int .i64 1)))⟩,
 ⟨(some 1), none, false, .mov (.t 20)⟩])
 (.seq
 (.seq
 (.reg false [0, 1, 5, 27] [⟨(some 21), none, false, .mov (.t 0)⟩,
 ⟨(some 22), none, false, .mov (.t 5)⟩,
 ⟨(some 23), none, false, .ia 6 (.t 21) (.t 22)⟩,
 ⟨(some 24), none, false, .fa 1 1 (.t 23)⟩,
 ⟨(some 25), none, false, .ld none (.t 24)⟩,
 ⟨(some 26), none, false, .mov (.t 1)⟩,
 ⟨(some 27), none, false, .bin .neq (.t 25) (.t 26)⟩])
 (.cond (.t 27)
 (.seq
 (.reg false [4] [⟨(some 4), none, false, .mov (.k (.d (.int .i64 (-1))))⟩])
 .ret)
 .skip))
 (.seq
 (.reg false [0, 1, 5] [⟨(some 28), none, false, .mov (.t 1)⟩,
 ⟨(some 29), none, false, .bin .add (.t 28) (.k (.d (.int .i64 1)))⟩,
 ⟨(some 1), none, false, .mov (.t 29)⟩])
 (.seq
 (.seq
 (.reg false [0, 1, 5, 36] [⟨(some 30), none, false, .mov (.t 0)⟩,
 ⟨(some 31), none, false, .mov (.t 5)⟩,
 ⟨(some 32), none, false, .ia 6 (.t 30) (.t 31)⟩,
 ⟨(some 33), none, false, .fa 2 2 (.t 32)⟩,
 ⟨(some 34), none, false, .ld none (.t 33)⟩,
 ⟨(some 35), none, false, .mov (.t 1)⟩,
 ⟨(some 36), none, false, .bin .neq (.t 34) (.t 35)⟩])
 (.cond (.t 36)
 (.seq
 (.reg false [4] [⟨(some 4), none, false, .mov (.k (.d (.int .i64 (-1))))⟩])
 .ret)
 .skip))
 (.seq
 (.reg false [0, 1, 5] [⟨(some 37), none, false, .mov (.t 1)⟩,
 ⟨(some 38), none, false, .bin .add (.t 37) (.k (.d (.int .i64 1)))⟩,
 ⟨(some 1), none, false, .mov (.t 38)⟩])
 (.seq
 (.reg false [0, 1, 5] [⟨(some 39), none, false, .mov (.t 0)⟩,
 ⟨(some 40), none, false, .mov (.t 5)⟩,
 ⟨(some 41), none, false, .ia 6 (.t 39) (.t 40)⟩,
 ⟨(some 42), none, false, .fa 3 3 (.t 41)⟩,
 ⟨(some 43), none, false, .ld none (.t 42)⟩,
 ⟨(some 44), none, false, .mov (.t 1)⟩,
 ⟨(some 45), none, true, .call 16 [(.t 43), (.t 44)]⟩,
 ⟨(some 1), none, false, .mov (.t 45)⟩])
 (.seq
 (.seq
 (.reg false [0, 1, 5, 47] [⟨(some 46), none, false, .mov (.t 1)⟩,
 ⟨(some 47), none, false, .bin .lss (.t 46) (.k (.d (.int .i64 0)))⟩])
 (.cond (.t 47)
 (.seq
 (.reg false [4] [⟨(some 4), none, false, .mov (.k (.d (.int .i64 (-1))))⟩])
 .ret)
 .skip))
 (.seq
 (.reg false [0, 1, 5] [⟨(some 48), none, false, .mov (.t 0)⟩,
 ⟨(some 49), none, false, .mov (.t 5)⟩,
 ⟨(some 50), none, false, .ia 6 (.t 48) (.t 49)⟩,
 ⟨(some 51), none, false, .fa 4 4 (.t 50)⟩,
 ⟨(some 52), none, false, .ld none (.t 51)⟩,
 ⟨(some 53), none, false, .mov (.t 1)⟩,
 ⟨(some 54), none, true, .call 16 [(.t 52), (.t 53)]⟩,
 ⟨(some 1), none, false, .mov (.t 54)⟩])
 (.seq
 (.seq
 (.reg false [0, 1, 5, 56] [⟨(some 55), none, false, .mov (.t 1)⟩,
 ⟨(some 56), none, false, .bin .lss (.t 55) (.k (.d (.int .i64 0)))⟩])
 (.cond (.t 56)
 (.seq
 (.reg false [4] [⟨(some 4), none, false, .mov (.k (.d (.int .i64 (-1))))⟩])
 .ret)
 .skip))
 (.seq
 (.seq
 (.reg false [0, 1, 5, 63] [⟨(some 57), none, false, .mov (.t 0)⟩,
 ⟨(some 58), none, false, .mov (.t 5)⟩,
 ⟨(some 59), none, false, .ia 6 (.t 57) (.t 58)⟩,
 ⟨(some 60), none, false, .fa 5 5 (.t 59)⟩,
 ⟨(some 61), none, false, .ld none (.t 60)⟩,
 ⟨(some 62), none, false, .mov (.t 1)⟩,
 ⟨(some 63), none, false, .bin .neq (.t 61) (.t 62)⟩])
 (.cond (.t 63)
 (.seq
 (.reg false [4] [⟨(some 4), none, false, .mov (.k (.d (.int .i64 (-1))))⟩])
 .ret)
 .skip))
 (.reg false [0, 1, 5] [⟨(some 64), none, false, .mov (.t 1)⟩,
 ⟨(some 65), none, false, .bin .add (.t 64) (.k (.d (.int .i64 1)))⟩,
 ⟨(some 1), none, false, .mov (.t 65)⟩])))))))))))))
 (.reg false [0, 1, 5] [⟨(some 10), none, false, .mov (.t 5)⟩,
 ⟨(some 11), none, false, .bin .add (.t 10) (.k (.d (.int .i64 1)))⟩,
 ⟨(some 5), none, false, .mov (.t 11)⟩]))))))
 (.seq
 (.reg false [4] [⟨(some 66), none, false, .mov (.t 1)⟩,
 ⟨(some 4), none, false, .mov (.t 66)⟩])
 .ret)))
theorem c11 : (Go.Proofs.Try.f11).body.bind (comp prog.P (1, (Go.Proofs.Try.f11).ntmps) lv11) = some m11 := by kernel_rfl
theorem r11 : resOK prog.P (Go.Proofs.Try.f11).results.toList = true := by kernel_rfl

/-- spec.WaitFor -/
def lv12 : List (Nat × List Nat) := [(0, [0, 1]), (1, [0, 1, 6]), (2, [0, 1, 6, 20]), (3, [4, 5]), (4, [0, 1, 6, 7]), (5, [0, 1, 6, 7, 8]), (6, [0, 1, 6, 7, 8, 26]), (7, [0, 1, 6, 7, 8]), (8, [0, 1, 6, 7, 8, 9]), (9, [0, 1, 6, 7, 8, 9, 48]), (10, [0, 1, 6, 7, 8, 9, 10]), (11, [0, 1, 6, 7, 8, 9, 10, 63]), (12, [0, 1, 6, 7, 8, 9, 10]), (13, [0, 1, 6, 7, 8]), (14, [6, 7, 11]), (15, [6, 7, 11, 81]), (16, [6, 7, 11]), (17, [6, 7, 11]), (18, [4, 5]), (1000013, [0, 1, 1, 1, 2, 1, 3, 1, 5, 1, 8, 1, 9, 1, 10, 3, 2, 0, 3, 2, 4, 2, 6, 2, 7, 2, 11, 1, 12, 0, 2, 6, 2, 4, 2, 7, 2, 11, 1, 12, 0, 2, 6, 2, 0, 2, 4, 2, 7, 2, 11, 1, 12, 0])]
def m12 : MC :=
  (.seq
 (.reg false [0, 1] [⟨(some 4), none, false, .mov (.k .nil)⟩,
 ⟨(some 5), none, false, .mov (.k (.d (.bool false)))⟩])
 (.seq
 (.reg false [0, 1, 6] [⟨(some 12), none, true, .bs 1 0 (.int .i64 0) []⟩,
 ⟨(some 6), none, false, .mov (.t 12)⟩])
 (.seq
 (.seq
 (.reg false [0, 1, 6, 20] [⟨(some 13), none, false, .mov (.t 0)⟩,
 ⟨(some 14), none, true, .call 19 [(.t 13)]⟩,
 ⟨(some 15), none, false, .un .not (.t 14)⟩,
 ⟨(some 16), none, false, .mov (.t 15)⟩,
 ⟨(some 17), (some (16, false)), false, .mov (.t 1)⟩,
 ⟨(some 18), (some (16, false)), true, .call 30 [(.t 17)]⟩,
 ⟨(some 19), (some (16, false)), false, .un .not (.t 18)⟩,
 ⟨(some 20), none, false, .pick (.t 16) (.k (.d (.bool true))) (.t 19)⟩])
 (.cond (.t 20)
 (.seq
 (.reg false [4, 5] [⟨(some 21), none, false, .mov (.t 6)⟩,
 ⟨(some 4), none, false, .mov (.t 21)⟩,
 ⟨(some 5), none, false, .mov (.k (.d (.bool false)))⟩])
 .ret)
 .skip))
 (.seq
 (.reg false [0, 1, 6, 7] [⟨(some 22), none, true, .bs 6 0 (.st (.cons (.int .i64 0) (.cons (.int .i64 0) (.cons (.int .i64 0) (.cons (.sl true 1 .nil) (.cons (.sl true 1 .nil) (.cons (.int .i64 0) .nil))))))) []⟩,
 ⟨(some 7), none, false, .mov (.t 22)⟩])
 (.seq
 (.seq
 (.reg false [0, 1, 6, 7, 8] [⟨(some 8), none, false, .mov (.k (.d (.int .i64 0)))⟩])
 (.block 0
 (.loop
 (.seq
 (.seq
 (.reg false [0, 1, 6, 7, 8, 26] [⟨(some 23), none, false, .mov (.t 8)⟩,
 ⟨(some 24), none, false, .mov (.t 0)⟩,
 ⟨(some 25), none, false, .len false (.t 24)⟩,
 ⟨(some 26), none, false, .bin .lss (.t 23) (.t 25)⟩])
 (.cond (.t 26)
 .skip
 (.exit 0)))
 (.seq
 (.block 1
 (.seq
 (.reg false [0, 1, 6, 7, 8, 9] [⟨(some 29), none, false, .mov (.t 0)⟩,
 ⟨(some 30), none, false, .mov (.t 8)⟩,
 ⟨(some 31), none, false, .ia 6 (.t 29) (.t 30)⟩,
 ⟨(some 32), none, false, .ld (some 6) (.t 31)⟩,
 ⟨(some 9), none, true, .alloc (.st (.cons (.int .i64 0) (.cons (.int .i64 0) (.cons (.int .i64 0) (.cons (.sl true 1 .nil) (.cons (.sl true 1 .nil) (.cons (.int .i64 0) .nil)))))))⟩,
 ⟨none, none, true, .st 6 (.t 9) (.t 32)⟩])
 (.seq
 (.seq
 (.reg false [0, 1, 6, 7, 8, 9, 48] [⟨(some 33), none, false, .fa 5 5 (.t 9)⟩,
 ⟨(some 34), none, false, .ld none (.t 33)⟩,
 ⟨(some 35), none, false, .bin .neq (.t 34) (.k (.d (.int .i64 0)))⟩,
 ⟨(some 36), none, false, .mov (.t 35)⟩,
 ⟨(some 37), (some (36, false)), false, .fa 3 3 (.t 9)⟩,
 ⟨(some 38), (some (36, false)), false, .ld none (.t 37)⟩,
 ⟨(some 39), (some (36, false)), false, .mov (.t 1)⟩,
 ⟨(some 40), (some (36, false)), true, .call 20 [(.t 38), (.t 39)]⟩,
 ⟨(some 41), (some (36, false)), false, .un .not (.t 40)⟩,
 ⟨(some 42), none, false, .pick (.t 36) (.k (.d (.bool true))) (.t 41)⟩,
 ⟨(some 43), none, false, .mov (.t 42)⟩,
 ⟨(some 44), (some (43, false)), false, .fa 4 4 (.t 9)⟩,
 ⟨(some 45), (some (43, false)), false, .ld none (.t 44)⟩,
 ⟨(some 46), (some (43, false)), false, .mov (.t 1)⟩,
 ⟨(some 47), (some (43, false)), true, .call 20 [(.t 45), (.t 46)]⟩,
 ⟨(some 48), none, false, .pick (.t 43) (.k (.d (.bool true))) (.t 47)⟩])
 (.cond (.t 48)
 (.exit 1)
 .skip))
 (.seq
 (.reg false [0, 1, 6, 7, 8, 9, 10] [⟨(some 49), none, false, .mov (.t 7)⟩,
 ⟨(some 50), none, false, .len false (.t 49)⟩,
 ⟨(some 10), none, false, .mov (.t 50)⟩])
 (.seq
 (.block 2
 (.loop
 (.seq
 (.seq
 (.reg true [0, 1, 6, 7, 8, 9, 10, 63] [⟨(some 51), none, false, .mov (.t 10)⟩,
 ⟨(some 52), none, false, .bin .gtr (.t 51) (.k (.d (.int .i64 0)))⟩,
 ⟨(some 53), none, false, .mov (.t 52)⟩,
 ⟨(some 54), (some (53, true)), false, .mov (.t 7)⟩,
 ⟨(some 55), (some (53, true)), false, .mov (.t 10)⟩,
 ⟨(some 56), (some (53, true)), false, .bin .sub (.t 55) (.k (.d (.int .i64 1)))⟩,
 ⟨(some 57), (some (53, true)), false, .ia 6 (.t 54) (.t 56)⟩,
 ⟨(some 58), (some (53, true)), false, .fa 2 2 (.t 57)⟩,
 ⟨(some 59), (some (53, true)), false, .ld none (.t 58)⟩,
 ⟨(some 60), (some (53, true)), false, .fa 2 2 (.t 9)⟩,
 ⟨(some 61), (some (53, true)), false, .ld none (.t 60)⟩,
 ⟨(some 62), (some (53, true)), false, .bin .gtr (.t 59) (.t 61)⟩,
 ⟨(some 63), none, false, .pick (.t 53) (.t 62) (.k (.d (.bool false)))⟩])
 (.cond (.t 63)
 .skip
 (.exit 2)))
 (.block 3
 (.reg false [0, 1, 6, 7, 8, 9, 10] [⟨(some 64), none, false, .mov (.t 10)⟩,
 ⟨(some 65), none, false, .bin .sub (.t 64) (.k (.d (.int .i64 1)))⟩,
 ⟨(some 10), none, false, .mov (.t 65)⟩])))))
 (.any [] [0, 1, 6, 7, 8] (.q 1 ⟨(some 67), none, false, .mov (.t 7)⟩ (.q 2 ⟨(some 68), none, false, .mov (.t 10)⟩ (.q 3 ⟨(some 69), none, false, .slx 6 (.t 67) none (some (.t 68))⟩ (.q 5 ⟨(some 71), none, false, .ld (some 6) (.t 9)⟩ (.q 8 ⟨(some 74), none, false, .mov (.t 7)⟩ (.q 9 ⟨(some 75), none, false, .mov (.t 10)⟩ (.q 10 ⟨(some 76), none, false, .slx 6 (.t 74) (some (.t 75)) none⟩ (.br (.e 0 ⟨(some 66), none, true, .bs 6 0 (.st (.cons (.int .i64 0) (.cons (.int .i64 0) (.cons (.int .i64 0) (.cons (.sl true 1 .nil) (.cons (.sl true 1 .nil) (.cons (.int .i64 0) .nil))))))) []⟩ (.br (.e 4 ⟨(some 70), none, true, .app 6 80 (.t 66) (.t 69)⟩ (.e 6 ⟨(some 72), none, true, .bs 6 1 (.st (.cons (.int .i64 0) (.cons (.int .i64 0) (.cons (.int .i64 0) (.cons (.sl true 1 .nil) (.cons (.sl true 1 .nil) (.cons (.int .i64 0) .nil))))))) [(0, (.t 71))]⟩ (.e 7 ⟨(some 73), none, true, .app 6 80 (.t 70) (.t 72)⟩ (.e 11 ⟨(some 77), none, true, .app 6 80 (.t 73) (.t 76)⟩ (.q 12 ⟨(some 7), none, false, .mov (.t 77)⟩ .done)))))
 (.e 6 ⟨(some 72), none, true, .bs 6 1 (.st (.cons (.int .i64 0) (.cons (.int .i64 0) (.cons (.int .i64 0) (.cons (.sl true 1 .nil) (.cons (.sl true 1 .nil) (.cons (.int .i64 0) .nil))))))) [(0, (.t 71))]⟩ (.e 4 ⟨(some 70), none, true, .app 6 80 (.t 66) (.t 69)⟩ (.e 7 ⟨(some 73), none, true, .app 6 80 (.t 70) (.t 72)⟩ (.e 11 ⟨(some 77), none, true, .app 6 80 (.t 73) (.t 76)⟩ (.q 12 ⟨(some 7), none, false, .mov (.t 77)⟩ .done)))))))
 (.e 6 ⟨(some 72), none, true, .bs 6 1 (.st (.cons (.int .i64 0) (.cons (.int .i64 0) (.cons (.int .i64 0) (.cons (.sl true 1 .nil) (.cons (.sl true 1 .nil) (.cons (.int .i64 0) .nil))))))) [(0, (.t 71))]⟩ (.e 0 ⟨(some 66), none, true, .bs 6 0 (.st (.cons (.int .i64 0) (.cons (.int .i64 0) (.cons (.int .i64 0) (.cons (.sl true 1 .nil) (.cons (.sl true 1 .nil) (.cons (.int .i64 0) .nil))))))) []⟩ (.e 4 ⟨(some 70), none, true, .app 6 80 (.t 66) (.t 69)⟩ (.e 7 ⟨(some 73), none, true, .app 6 80 (.t 70) (.t 72)⟩ (.e 11 ⟨(some 77), none, true, .app 6 80 (.t 73) (.t 76)⟩ (.q 12 ⟨(some 7), none, false, .mov (.t 77)⟩ .done))))))))))))))))))))
 (.reg false [0, 1, 6, 7, 8] [⟨(some 27), none, false, .mov (.t 8)⟩,
 ⟨(some 28), none, false, .bin .add (.t 27) (.k (.d (.int .i64 1)))⟩,
 ⟨(some 8), none, false, .mov (.t 28)⟩]))))))
 (.seq
 (.seq
 (.reg false [6, 7, 11] [⟨(some 11), none, false, .mov (.k (.d (.int .i64 0)))⟩])
 (.block 4
 (.loop
 (.seq
 (.seq
 (.reg false [6, 7, 11, 81] [⟨(some 78), none, false, .mov (.t 11)⟩,
 ⟨(some 79), none, false, .mov (.t 7)⟩,
 ⟨(some 80), none, false, .len false (.t 79)⟩,
 ⟨(some 81), none, false, .bin .lss (.t 78) (.t 80)⟩])
 (.cond (.t 81)
 .skip
 (.exit 4)))
 (.seq
 (.block 5
 (.reg false [6, 7, 11] [⟨(some 84), none, false, .mov (.t 6)⟩,
 ⟨(some 85), none, false, .mov (.t 7)⟩,
 ⟨(some 86), none, false, .mov (.t 11)⟩,
 ⟨(some 87), none, false, .ia 6 (.t 85) (.t 86)⟩,
 ⟨(some 88), none, false, .fa 0 0 (.t 87)⟩,
 ⟨(some 89), none, false, .ld none (.t 88)⟩,
 ⟨(some 90), none, true, .bs 1 1 (.int .i64 0) [(0, (.t 89))]⟩,
 ⟨(some 91), none, true, .app 1 8 (.t 84) (.t 90)⟩,
 ⟨(some 6), none, false, .mov (.t 91)⟩]))
 (.reg false [6, 7, 11] [⟨(some 82), none, false, .mov (.t 11)⟩,
 ⟨(some 83), none, false, .bin .add (.t 82) (.k (.d (.int .i64 1)))⟩,
 ⟨(some 11), none, false, .mov (.t 83)⟩]))))))
 (.seq
 (.reg false [4, 5] [⟨(some 92), none, false, .mov (.t 6)⟩,
 ⟨(some 4), none, false, .mov (.t 92)⟩,
 ⟨(some 5), none, false, .mov (.k (.d (.bool true)))⟩])
 .ret)))))))
theorem c12 : (Go.Proofs.Try.f12).body.bind (comp prog.P (2, (Go.Proofs.Try.f12).ntmps) lv12) = some m12 := by kernel_rfl
theorem r12 : resOK prog.P (Go.Proofs.Try.f12).results.toList = true := by kernel_rfl

/-- impl.WaitFor -/
def lv13 : List (Nat × List Nat) := [(0, [0, 1]), (1, [0, 1, 19]), (2, [4, 5]), (3, [0, 1, 6]), (4, [1, 6, 20, 21, 22]), (5, [1, 6, 20, 21, 22, 23]), (6, [1, 6, 8, 20, 21, 22]), (7, [1, 6, 8, 20, 21, 22, 28]), (8, [1, 6, 20, 21, 22]), (9, [1, 6, 20, 21, 22]), (10, [6]), (11, [6, 9]), (12, [9, 36, 37, 38]), (13, [9, 36, 37, 38, 39]), (14, [9, 11, 36, 37, 38]), (15, [9, 36, 37, 38]), (16, [9, 36, 37, 38]), (17, [4, 5])]
def m13 : MC :=
  (.seq
 (.reg false [0, 1] [⟨(some 4), none, false, .mov (.k .nil)⟩,
 ⟨(some 5), none, false, .mov (.k (.d (.bool false)))⟩])
 (.seq
 (.seq
 (.reg false [0, 1, 19] [⟨(some 12), none, false, .mov (.t 0)⟩,
 ⟨(some 13), none, true, .call 25 [(.t 12)]⟩,
 ⟨(some 14), none, false, .un .not (.t 13)⟩,
 ⟨(some 15), none, false, .mov (.t 14)⟩,
 ⟨(some 16), (some (15, false)), false, .mov (.t 1)⟩,
 ⟨(some 17), (some (15, false)), true, .call 31 [(.t 16)]⟩,
 ⟨(some 18), (some (15, false)), false, .un .not (.t 17)⟩,
 ⟨(some 19), none, false, .pick (.t 15) (.k (.d (.bool true))) (.t 18)⟩])
 (.cond (.t 19)
 (.seq
 (.reg false [4, 5] [⟨(some 4), none, false, .mov (.k .nil)⟩,
 ⟨(some 5), none, false, .mov (.k (.d (.bool false)))⟩])
 .ret)
 .skip))
 (.seq
 (.reg false [0, 1, 6] [⟨(some 6), none, false, .mov (.k .nil)⟩])
 (.seq
 (.seq
 (.reg false [1, 6, 20, 21, 22] [⟨(some 20), none, false, .mov (.t 0)⟩,
 ⟨(some 21), none, false, .len false (.t 20)⟩,
 ⟨(some 22), none, false, .mov (.k (.d (.int .i64 0)))⟩])
 (.block 0
 (.loop
 (.seq
 (.reg false [1, 6, 20, 21, 22, 23] [⟨(some 23), none, false, .bin .lss (.t 22) (.t 21)⟩])
 (.seq
 (.cond (.t 23)
 .skip
 (.exit 0))
 (.seq
 (.block 1
 (.seq
 (.reg false [1, 6, 8, 20, 21, 22] [⟨(some 24), none, false, .ia 6 (.t 20) (.t 22)⟩,
 ⟨(some 25), none, false, .ld (some 6) (.t 24)⟩,
 ⟨(some 8), none, true, .alloc (.st (.cons (.int .i64 0) (.cons (.int .i64 0) (.cons (.int .i64 0) (.cons (.sl true 1 .nil) (.cons (.sl true 1 .nil) (.cons (.int .i64 0) .nil)))))))⟩,
 ⟨none, none, true, .st 6 (.t 8) (.t 25)⟩])
 (.seq
 (.reg false [1, 6, 8, 20, 21, 22, 28] [⟨(some 26), none, false, .ld (some 6) (.t 8)⟩,
 ⟨(some 27), none, false, .mov (.t 1)⟩,
 ⟨(some 28), none, true, .call 26 [(.t 26), (.t 27)]⟩])
 (.cond (.t 28)
 (.reg false [1, 6, 20, 21, 22] [⟨(some 29), none, false, .mov (.t 6)⟩,
 ⟨(some 30), none, false, .ld (some 6) (.t 8)⟩,
 ⟨(some 31), none, true, .bs 6 1 (.st (.cons (.int .i64 0) (.cons (.int .i64 0) (.cons (.int .i64 0) (.cons (.sl true 1 .nil) (.cons (.sl true 1 .nil) (.cons (.int .i64 0) .nil))))))) [(0, (.t 30))]⟩,
 ⟨(some 32), none, true, .app 6 80 (.t 29) (.t 31)⟩,
 ⟨(some 6), none, false, .mov (.t 32)⟩])
 .skip))))
 (.reg false [1, 6, 20, 21, 22] [⟨(some 33), none, false, .bin .add (.t 22) (.k (.d (.int .i64 1)))⟩,
 ⟨(some 22), none, false, .mov (.t 33)⟩])))))))
 (.seq
 (.reg false [6] [⟨(some 34), none, false, .mov (.t 6)⟩,
 ⟨(some 35), none, true, .call 32 [(.t 34), (.k (.d (.clo 33 .nil)))]⟩])
 (.seq
 (.reg false [6, 9] [⟨(some 9), none, false, .mov (.k .nil)⟩])
 (.seq
 (.seq
 (.reg false [9, 36, 37, 38] [⟨(some 36), none, false, .mov (.t 6)⟩,
 ⟨(some 37), none, false, .len false (.t 36)⟩,
 ⟨(some 38), none, false, .mov (.k (.d (.int .i64 0)))⟩])
 (.block 2
 (.loop
 (.seq
 (.reg false [9, 36, 37, 38, 39] [⟨(some 39), none, false, .bin .lss (.t 38) (.t 37)⟩])
 (.seq
 (.cond (.t 39)
 .skip
 (.exit 2))
 (.seq
 (.block 3
 (.seq
 (.reg false [9, 11, 36, 37, 38] [⟨(some 40), none, false, .ia 6 (.t 36) (.t 38)⟩,
 ⟨(some 41), none, false, .ld (some 6) (.t 40)⟩,
 ⟨(some 11), none, true, .alloc (.st (.cons (.int .i64 0) (.cons (.int .i64 0) (.cons (.int .i64 0) (.cons (.sl true 1 .nil) (.cons (.sl true 1 .nil) (.cons (.int .i64 0) .nil)))))))⟩,
 ⟨none, none, true, .st 6 (.t 11) (.t 41)⟩])
 (.reg false [9, 36, 37, 38] [⟨(some 42), none, false, .mov (.t 9)⟩,
 ⟨(some 43), none, false, .fa 0 0 (.t 11)⟩,
 ⟨(some 44), none, false, .ld none (.t 43)⟩,
 ⟨(some 45), none, true, .bs 1 1 (.int .i64 0) [(0, (.t 44))]⟩,
 ⟨(some 46), none, true, .app 1 8 (.t 42) (.t 45)⟩,
 ⟨(some 9), none, false, .mov (.t 46)⟩])))
 (.reg false [9, 36, 37, 38] [⟨(some 47), none, false, .bin .add (.t 38) (.k (.d (.int .i64 1)))⟩,
 ⟨(some 38), none, false, .mov (.t 47)⟩])))))))
 (.seq
 (.reg false [4, 5] [⟨(some 48), none, false, .mov (.t 9)⟩,
 ⟨(some 4), none, false, .mov (.t 48)⟩,
 ⟨(some 5), none, false, .mov (.k (.d (.bool true)))⟩])
 .ret))))))))
theorem c13 : (Go.Proofs.Try.f13).body.bind (comp prog.P (2, (Go.Proofs.Try.f13).ntmps) lv13) = some m13 := by kernel_rfl
theorem r13 : resOK prog.P (Go.Proofs.Try.f13).results.toList = true := by kernel_rfl

/-- laws.eqIntS -/
def lv14 : List (Nat × List Nat) := [(0, [0, 1]), (1, [0, 1, 10]), (2, [4]), (3, [0, 1, 5]), (4, [0, 1, 5, 14]), (5, [0, 1, 5]), (6, [0, 1, 5, 25]), (7, [4]), (8, [4])]
def m14 : MC :=
  (.seq
 (.reg false [0, 1] [⟨(some 4), none, false, .mov (.k (.d (.bool false)))⟩])
 (.seq
 (.seq
 (.reg false [0, 1, 10] [⟨(some 6), none, false, .mov (.t 0)⟩,
 ⟨(some 7), none, false, .len false (.t 6)⟩,
 ⟨(some 8), none, false, .mov (.t 1)⟩,
 ⟨(some 9), none, false, .len false (.t 8)⟩,
 ⟨(some 10), none, false, .bin .neq (.t 7) (.t 9)⟩])
 (.cond (.t 10)
 (.seq
 (.reg false [4] [⟨(some 4), none, false, .mov (.k (.d (.bool false)))⟩])
 .ret)
 .skip))
 (.seq
 (.seq
 (.reg false [0, 1, 5] [⟨(some 5), none, false, .mov (.k (.d (.int .i64 0)))⟩])
 (.block 0
 (.loop
 (.seq
 (.seq
 (.reg false [0, 1, 5, 14] [⟨(some 11), none, false, .mov (.t 5)⟩,
 ⟨(some 12), none, false, .mov (.t 0)⟩,
 ⟨(some 13), none, false, .len false (.t 12)⟩,
 ⟨(some 14), none, false, .bin .lss (.t 11) (.t 13)⟩])
 (.cond (.t 14)
 .skip
 (.exit 0)))
 (.seq
 (.block 1
 (.seq
 (.reg true [0, 1, 5, 25] [⟨(some 17), none, false, .mov (.t 0)⟩,
 ⟨(some 18), none, false, .mov (.t 5)⟩,
 ⟨(some 19), none, false, .ia 1 (.t 17) (.t 18)⟩,
 ⟨(some 20), none, false, .ld none (.t 19)⟩,
 ⟨(some 21), none, false, .mov (.t 1)⟩,
 ⟨(some 22), none, false, .mov (.t 5)⟩,
 ⟨(some 23), none, false, .ia 1 (.t 21) (.t 22)⟩,
 ⟨(some 24), none, false, .ld none (.t 23)⟩,
 ⟨(some 25), none, false, .bin .neq (.t 20) (.t 24)⟩])
 (.cond (.t 25)
 (.seq
 (.reg false [4] [⟨(some 4), none, false, .mov (.k (.d (.bool false)))⟩])
 .ret)
 .skip)))
 (.reg false [0, 1, 5] [⟨(some 15), none, false, .mov (.t 5)⟩,
 ⟨(some 16), none, false, .bin .add (.t 15) (.k (.d (.int .i64 1)))⟩,
 ⟨(some 5), none, false, .mov (.t 16)⟩]))))))
 (.seq
 (.reg false [4] [⟨(some 4), none, false, .mov (.k (.d (.bool true)))⟩])
 .ret))))
theorem c14 : (Go.Proofs.Try.f14).body.bind (comp prog.P (2, (Go.Proofs.Try.f14).ntmps) lv14) = some m14 := by kernel_rfl
theorem r14 : resOK prog.P (Go.Proofs.Try.f14).results.toList = true := by kernel_rfl

/-- laws.markIntS -/
def lv15 : List (Nat × List Nat) := [(0, [0, 1]), (1, [0, 1, 5]), (2, [0, 1, 5, 9]), (3, [0, 1, 5]), (4, [0, 1, 5]), (5, [0, 1, 5]), (6, [0, 4])]
def m15 : MC :=
  (.seq
 (.reg false [0, 1] [⟨(some 4), none, false, .mov (.k (.d (.int .i64 0)))⟩])
 (.seq
 (.seq
 (.reg false [0, 1, 5] [⟨(some 5), none, false, .mov (.k (.d (.int .i64 0)))⟩])
 (.block 0
 (.loop
 (.seq
 (.seq
 (.reg false [0, 1, 5, 9] [⟨(some 6), none, false, .mov (.t 5)⟩,
 ⟨(some 7), none, false, .mov (.t 0)⟩,
 ⟨(some 8), none, false, .len false (.t 7)⟩,
 ⟨(some 9), none, false, .bin .lss (.t 6) (.t 8)⟩])
 (.cond (.t 9)
 .skip
 (.exit 0)))
 (.seq
 (.block 1
 (.seq
 (.reg false [0, 1, 5] [⟨(some 12), none, false, .mov (.t 0)⟩,
 ⟨(some 13), none, false, .mov (.t 5)⟩,
 ⟨(some 14), none, false, .mov (.t 1)⟩,
 ⟨(some 15), none, false, .ia 1 (.t 12) (.t 13)⟩,
 ⟨none, none, true, .st 1 (.t 15) (.t 14)⟩])
 (.reg false [0, 1, 5] [⟨(some 16), none, false, .mov (.t 1)⟩,
 ⟨(some 17), none, false, .bin .add (.t 16) (.k (.d (.int .i64 1)))⟩,
 ⟨(some 1), none, false, .mov (.t 17)⟩])))
 (.reg false [0, 1, 5] [⟨(some 10), none, false, .mov (.t 5)⟩,
 ⟨(some 11), none, false, .bin .add (.t 10) (.k (.d (.int .i64 1)))⟩,
 ⟨(some 5), none, false, .mov (.t 11)⟩]))))))
 (.seq
 (.reg false [0, 4] [⟨(some 18), none, false, .mov (.t 1)⟩,
 ⟨(some 4), none, false, .mov (.t 18)⟩])
 .ret)))
theorem c15 : (Go.Proofs.Try.f15).body.bind (comp prog.P (1, (Go.Proofs.Try.f15).ntmps) lv15) = some m15 := by kernel_rfl
theorem r15 : resOK prog.P (Go.Proofs.Try.f15).results.toList = true := by kernel_rfl

/-- laws.heldIntS -/
def lv16 : List (Nat × List Nat) := [(0, [0, 1]), (1, [0, 1, 5]), (2, [0, 1, 5, 9]), (3, [0, 1, 5]), (4, [0, 1, 5, 17]), (5, [4]), (6, [0, 1, 5]), (7, [4])]
def m16 : MC :=
  (.seq
 (.reg false [0, 1] [⟨(some 4), none, false, .mov (.k (.d (.int .i64 0)))⟩])
 (.seq
 (.seq
 (.reg false [0, 1, 5] [⟨(some 5), none, false, .mov (.k (.d (.int .i64 0)))⟩])
 (.block 0
 (.loop
 (.seq
 (.seq
 (.reg false [0, 1, 5, 9] [⟨(some 6), none, false, .mov (.t 5)⟩,
 ⟨(some 7), none, false, .mov (.t 0)⟩,
 ⟨(some 8), none, false, .len false (.t 7)⟩,
 ⟨(some 9), none, false, .bin .lss (.t 6) (.t 8)⟩])
 (.cond (.t 9)
 .skip
 (.exit 0)))
 (.seq
 (.block 1
 (.seq
 (.seq
 (.reg false [0, 1, 5, 17] [⟨(some 12), none, false, .mov (.t 0)⟩,
 ⟨(some 13), none, false, .mov (.t 5)⟩,
 ⟨(some 14), none, false, .ia 1 (.t 12) (.t 13)⟩,
 ⟨(some 15), none, false, .ld none (.t 14)⟩,
 ⟨(some 16), none, false, .mov (.t 1)⟩,
 ⟨(some 17), none, false, .bin .neq (.t 15) (.t 16)⟩])
 (.cond (.t 17)
 (.seq
 (.reg false [4] [⟨(some 4), none, false, .mov (.k (.d (.int .i64 (-1))))⟩])
 .ret)
 .skip))
 (.reg false [0, 1, 5] [⟨(some 18), none, false, .mov (.t 1)⟩,
 ⟨(some 19), none, false, .bin .add (.t 18) (.k (.d (.int .i64 1)))⟩,
 ⟨(some 1), none, false, .mov (.t 19)⟩])))
 (.reg false [0, 1, 5] [⟨(some 10), none, false, .mov (.t 5)⟩,
 ⟨(some 11), none, false, .bin .add (.t 10) (.k (.d (.int .i64 1)))⟩,
 ⟨(some 5), none, false, .mov (.t 11)⟩]))))))
 (.seq
 (.reg false [4] [⟨(some 20), none, false, .mov (.t 1)⟩,
 ⟨(some 4), none, false, .mov (.t 20)⟩])
 .ret)))
theorem c16 : (Go.Proofs.Try.f16).body.bind (comp prog.P (1, (Go.Proofs.Try.f16).ntmps) lv16) = some m16 := by kernel_rfl
theorem r16 : resOK prog.P (Go.Proofs.Try.f16).results.toList = true := by kernel_rfl

/-- laws.szAppeal -/
def lv17 : List (Nat × List Nat) := [(0, [1, 2]), (1, [1, 2]), (2, [1, 2, 10]), (3, [4]), (4, [1]), (5, [1, 16]), (6, [4]), (7, [4])]
def m17 : MC :=
  (.seq
 (.reg false [1, 2] [⟨(some 2), none, true, .box (.t 0)⟩,
 ⟨(some 4), none, false, .mov (.k (.d (.int .i64 0)))⟩])
 (.seq
 (.reg false [1, 2] [⟨(some 5), none, false, .fa 3 3 (.t 2)⟩,
 ⟨(some 6), none, false, .ld none (.t 5)⟩,
 ⟨(some 7), none, false, .mov (.t 1)⟩,
 ⟨(some 8), none, true, .call 35 [(.t 6), (.t 7)]⟩,
 ⟨(some 1), none, false, .mov (.t 8)⟩])
 (.seq
 (.seq
 (.reg false [1, 2, 10] [⟨(some 9), none, false, .mov (.t 1)⟩,
 ⟨(some 10), none, false, .bin .lss (.t 9) (.k (.d (.int .i64 0)))⟩])
 (.cond (.t 10)
 (.seq
 (.reg false [4] [⟨(some 4), none, false, .mov (.k (.d (.int .i64 (-1))))⟩])
 .ret)
 .skip))
 (.seq
 (.reg false [1] [⟨(some 11), none, false, .fa 4 4 (.t 2)⟩,
 ⟨(some 12), none, false, .ld none (.t 11)⟩,
 ⟨(some 13), none, false, .mov (.t 1)⟩,
 ⟨(some 14), none, true, .call 35 [(.t 12), (.t 13)]⟩,
 ⟨(some 1), none, false, .mov (.t 14)⟩])
 (.seq
 (.seq
 (.reg false [1, 16] [⟨(some 15), none, false, .mov (.t 1)⟩,
 ⟨(some 16), none, false, .bin .lss (.t 15) (.k (.d (.int .i64 0)))⟩])
 (.cond (.t 16)
 (.seq
 (.reg false [4] [⟨(some 4), none, false, .mov (.k (.d (.int .i64 (-1))))⟩])
 .ret)
 .skip))
 (.seq
 (.reg false [4] [⟨(some 17), none, false, .mov (.t 1)⟩,
 ⟨(some 4), none, false, .mov (.t 17)⟩])
 .ret))))))
theorem c17 : (Go.Proofs.Try.f17).body.bind (comp prog.P (1, (Go.Proofs.Try.f17).ntmps) lv17) = some m17 := by kernel_rfl
theorem r17 : resOK prog.P (Go.Proofs.Try.f17).results.toList = true := by kernel_rfl

/-- spec.l24Find -/
def lv18 : List (Nat × List Nat) := [(0, [0, 1]), (1, [0, 1, 5]), (2, [0, 1, 5, 9]), (3, [0, 1, 5]), (4, [0, 1, 5, 18]), (5, [4]), (6, [4])]
def m18 : MC :=
  (.seq
 (.reg false [0, 1] [⟨(some 4), none, false, .mov (.k (.d (.int .i64 0)))⟩])
 (.seq
 (.seq
 (.reg false [0, 1, 5] [⟨(some 5), none, false, .mov (.k (.d (.int .i64 0)))⟩])
 (.block 0
 (.loop
 (.seq
 (.seq
 (.reg false [0, 1, 5, 9] [⟨(some 6), none, false, .mov (.t 5)⟩,
 ⟨(some 7), none, false, .mov (.t 0)⟩,
 ⟨(some 8), none, false, .len false (.t 7)⟩,
 ⟨(some 9), none, false, .bin .lss (.t 6) (.t 8)⟩])
 (.cond (.t 9)
 .skip
 (.exit 0)))
 (.seq
 (.block 1
 (.seq
 (.reg false [0, 1, 5, 18] [⟨(some 12), none, false, .mov (.t 0)⟩,
 ⟨(some 13), none, false, .mov (.t 5)⟩,
 ⟨(some 14), none, false, .ia 6 (.t 12) (.t 13)⟩,
 ⟨(some 15), none, false, .fa 0 0 (.t 14)⟩,
 ⟨(some 16), none, false, .ld none (.t 15)⟩,
 ⟨(some 17), none, false, .mov (.t 1)⟩,
 ⟨(some 18), none, false, .bin .eql (.t 16) (.t 17)⟩])
 (.cond (.t 18)
 (.seq
 (.reg false [4] [⟨(some 19), none, false, .mov (.t 5)⟩,
 ⟨(some 4), none, false, .mov (.t 19)⟩])
 .ret)
 .skip)))
 (.reg false [0, 1, 5] [⟨(some 10), none, false, .mov (.t 5)⟩,
 ⟨(some 11), none, false, .bin .add (.t 10) (.k (.d (.int .i64 1)))⟩,
 ⟨(some 5), none, false, .mov (.t 11)⟩]))))))
 (.seq
 (.reg false [4] [⟨(some 4), none, false, .mov (.k (.d (.int .i64 (-1))))⟩])
 .ret)))
theorem c18 : (Go.Proofs.Try.f18).body.bind (comp prog.P (2, (Go.Proofs.Try.f18).ntmps) lv18) = some m18 := by kernel_rfl
theorem r18 : resOK prog.P (Go.Proofs.Try.f18).results.toList = true := by kernel_rfl

/-- spec.l24Good -/
def lv19 : List (Nat × List Nat) := [(0, [0]), (1, [0, 3]), (2, [0, 3, 13]), (3, [0, 3]), (4, [0, 3, 4]), (5, [0, 3, 4, 37]), (6, [2]), (7, [0, 3, 4, 5]), (8, [0, 3, 4, 5, 40]), (9, [0, 3, 4, 5]), (10, [0, 3, 4, 5, 63]), (11, [2]), (12, [2])]
def m19 : MC :=
  (.seq
 (.reg false [0] [⟨(some 2), none, false, .mov (.k (.d (.bool false)))⟩])
 (.seq
 (.seq
 (.reg false [0, 3] [⟨(some 3), none, false, .mov (.k (.d (.int .i64 0)))⟩])
 (.block 0
 (.loop
 (.seq
 (.seq
 (.reg false [0, 3, 13] [⟨(some 6), none, false, .mov (.t 3)⟩,
 ⟨(some 7), none, false, .mov (.t 0)⟩,
 ⟨(some 8), none, false, .len false (.t 7)⟩,
 ⟨(some 9), none, false, .bin .lss (.t 6) (.t 8)⟩,
 ⟨(some 10), none, false, .mov (.t 9)⟩,
 ⟨(some 11), (some (10, true)), false, .mov (.t 3)⟩,
 ⟨(some 12), (some (10, true)), false, .bin .leq (.t 11) (.k (.d (.int .i64 10)))⟩,
 ⟨(some 13), none, false, .pick (.t 10) (.t 12) (.k (.d (.bool false)))⟩])
 (.cond (.t 13)
 .skip
 (.exit 0)))
 (.seq
 (.block 1
 (.seq
 (.reg false [0, 3, 4] [⟨(some 16), none, false, .mov (.t 0)⟩,
 ⟨(some 17), none, false, .mov (.t 3)⟩,
 ⟨(some 18), none, false, .ia 6 (.t 16) (.t 17)⟩,
 ⟨(some 19), none, false, .ld (some 6) (.t 18)⟩,
 ⟨(some 4), none, true, .alloc (.st (.cons (.int .i64 0) (.cons (.int .i64 0) (.cons (.int .i64 0) (.cons (.sl true 1 .nil) (.cons (.sl true 1 .nil) (.cons (.int .i64 0) .nil)))))))⟩,
 ⟨none, none, true, .st 6 (.t 4) (.t 19)⟩])
 (.seq
 (.seq
 (.reg true [0, 3, 4, 37] [⟨(some 20), none, false, .ld (some 6) (.t 4)⟩,
 ⟨(some 21), none, false, .callP 36 [(.t 20)]⟩,
 ⟨(some 22), none, false, .un .not (.t 21)⟩,
 ⟨(some 23), none, false, .mov (.t 22)⟩,
 ⟨(some 24), (some (23, false)), false, .mov (.t 3)⟩,
 ⟨(some 25), (some (23, false)), false, .bin .gtr (.t 24) (.k (.d (.int .i64 0)))⟩,
 ⟨(some 26), (some (23, false)), false, .mov (.t 25)⟩,
 ⟨(some 27), (some (26, true)), false, .mov (.t 0)⟩,
 ⟨(some 28), (some (26, true)), false, .mov (.t 3)⟩,
 ⟨(some 29), (some (26, true)), false, .bin .sub (.t 28) (.k (.d (.int .i64 1)))⟩,
 ⟨(some 30), (some (26, true)), false, .ia 6 (.t 27) (.t 29)⟩,
 ⟨(some 31), (some (26, true)), false, .fa 0 0 (.t 30)⟩,
 ⟨(some 32), (some (26, true)), false, .ld none (.t 31)⟩,
 ⟨(some 33), (some (26, true)), false, .fa 0 0 (.t 4)⟩,
 ⟨(some 34), (some (26, true)), false, .ld none (.t 33)⟩,
 ⟨(some 35), (some (26, true)), false, .bin .geq (.t 32) (.t 34)⟩,
 ⟨(some 36), (some (23, false)), false, .pick (.t 26) (.t 35) (.k (.d (.bool false)))⟩,
 ⟨(some 37), none, false, .pick (.t 23) (.k (.d (.bool true))) (.t 36)⟩])
 (.cond (.t 37)
 (.seq
 (.reg false [2] [⟨(some 2), none, false, .mov (.k (.d (.bool false)))⟩])
 .ret)
 .skip))
 (.seq
 (.reg false [0, 3, 4, 5] [⟨(some 5), none, false, .mov (.k (.d (.int .i64 0)))⟩])
 (.block 2
 (.loop
 (.seq
 (.seq
 (.reg false [0, 3, 4, 5, 40] [⟨(some 38), none, false, .mov (.t 5)⟩,
 ⟨(some 39), none, false, .mov (.t 3)⟩,
 ⟨(some 40), none, false, .bin .lss (.t 38) (.t 39)⟩])
 (.cond (.t 40)
 .skip
 (.exit 2)))
 (.seq
 (.block 3
 (.seq
 (.reg true [0, 3, 4, 5, 63] [⟨(some 43), none, false, .mov (.t 0)⟩,
 ⟨(some 44), none, false, .mov (.t 5)⟩,
 ⟨(some 45), none, false, .ia 6 (.t 43) (.t 44)⟩,
 ⟨(some 46), none, false, .fa 1 1 (.t 45)⟩,
 ⟨(some 47), none, false, .ld none (.t 46)⟩,
 ⟨(some 48), none, false, .fa 1 1 (.t 4)⟩,
 ⟨(some 49), none, false, .ld none (.t 48)⟩,
 ⟨(some 50), none, false, .bin .eql (.t 47) (.t 49)⟩,
 ⟨(some 51), none, false, .mov (.t 50)⟩,
 ⟨(some 52), (some (51, true)), false, .mov (.t 0)⟩,
 ⟨(some 53), (some (51, true)), false, .mov (.t 5)⟩,
 ⟨(some 54), (some (51, true)), false, .ia 6 (.t 52) (.t 53)⟩,
 ⟨(some 55), (some (51, true)), false, .fa 5 5 (.t 54)⟩,
 ⟨(some 56), (some (51, true)), false, .ld none (.t 55)⟩,
 ⟨(some 57), (some (51, true)), false, .bin .leq (.t 56) (.k (.d (.int .i64 1)))⟩,
 ⟨(some 58), none, false, .pick (.t 51) (.t 57) (.k (.d (.bool false)))⟩,
 ⟨(some 59), none, false, .mov (.t 58)⟩,
 ⟨(some 60), (some (59, true)), false, .fa 5 5 (.t 4)⟩,
 ⟨(some 61), (some (59, true)), false, .ld none (.t 60)⟩,
 ⟨(some 62), (some (59, true)), false, .bin .leq (.t 61) (.k (.d (.int .i64 1)))⟩,
 ⟨(some 63), none, false, .pick (.t 59) (.t 62) (.k (.d (.bool false)))⟩])
 (.cond (.t 63)
 (.seq
 (.reg false [2] [⟨(some 2), none, false, .mov (.k (.d (.bool false)))⟩])
 .ret)
 .skip)))
 (.reg false [0, 3, 4, 5] [⟨(some 41), none, false, .mov (.t 5)⟩,
 ⟨(some 42), none, false, .bin .add (.t 41) (.k (.d (.int .i64 1)))⟩,
 ⟨(some 5), none, false, .mov (.t 42)⟩])))))))))
 (.reg false [0, 3] [⟨(some 14), none, false, .mov (.t 3)⟩,
 ⟨(some 15), none, false, .bin .add (.t 14) (.k (.d (.int .i64 1)))⟩,
 ⟨(some 3), none, false, .mov (.t 15)⟩]))))))
 (.seq
 (.reg false [2] [⟨(some 64), none, false, .mov (.t 0)⟩,
 ⟨(some 65), none, false, .len false (.t 64)⟩,
 ⟨(some 66), none, false, .bin .leq (.t 65) (.k (.d (.int .i64 10)))⟩,
 ⟨(some 2), none, false, .mov (.t 66)⟩])
 .ret)))
theorem c19 : (Go.Proofs.Try.f19).body.bind (comp prog.P (1, (Go.Proofs.Try.f19).ntmps) lv19) = some m19 := by kernel_rfl
theorem r19 : resOK prog.P (Go.Proofs.Try.f19).results.toList = true := by kernel_rfl

/-- spec.l1Has -/
def lv20 : List (Nat × List Nat) := [(0, [0, 1]), (1, [0, 1, 5]), (2, [0, 1, 5, 9]), (3, [0, 1, 5]), (4, [0, 1, 5, 17]), (5, [4]), (6, [4])]
def m20 : MC :=
  (.seq
 (.reg false [0, 1] [⟨(some 4), none, false, .mov (.k (.d (.bool false)))⟩])
 (.seq
 (.seq
 (.reg false [0, 1, 5] [⟨(some 5), none, false, .mov (.k (.d (.int .i64 0)))⟩])
 (.block 0
 (.loop
 (.seq
 (.seq
 (.reg false [0, 1, 5, 9] [⟨(some 6), none, false, .mov (.t 5)⟩,
 ⟨(some 7), none, false, .mov (.t 0)⟩,
 ⟨(some 8), none, false, .len false (.t 7)⟩,
 ⟨(some 9), none, false, .bin .lss (.t 6) (.t 8)⟩])
 (.cond (.t 9)
 .skip
 (.exit 0)))
 (.seq
 (.block 1
 (.seq
 (.reg false [0, 1, 5, 17] [⟨(some 12), none, false, .mov (.t 0)⟩,
 ⟨(some 13), none, false, .mov (.t 5)⟩,
 ⟨(some 14), none, false, .ia 1 (.t 12) (.t 13)⟩,
 ⟨(some 15), none, false, .ld none (.t 14)⟩,
 ⟨(some 16), none, false, .mov (.t 1)⟩,
 ⟨(some 17), none, false, .bin .eql (.t 15) (.t 16)⟩])
 (.cond (.t 17)
 (.seq
 (.reg false [4] [⟨(some 4), none, false, .mov (.k (.d (.bool true)))⟩])
 .ret)
 .skip)))
 (.reg false [0, 1, 5] [⟨(some 10), none, false, .mov (.t 5)⟩,
 ⟨(some 11), none, false, .bin .add (.t 10) (.k (.d (.int .i64 1)))⟩,
 ⟨(some 5), none, false, .mov (.t 11)⟩]))))))
 (.seq
 (.reg false [4] [⟨(some 4), none, false, .mov (.k (.d (.bool false)))⟩])
 .ret)))
theorem c20 : (Go.Proofs.Try.f20).body.bind (comp prog.P (2, (Go.Proofs.Try.f20).ntmps) lv20) = some m20 := by kernel_rfl
theorem r20 : resOK prog.P (Go.Proofs.Try.f20).results.toList = true := by kernel_rfl

/-- spec.l24Own -/
def lv21 : List (Nat × List Nat) := [(0, [0]), (1, [0, 3]), (2, [0, 3, 4]), (3, [0, 3, 4, 10]), (4, [0, 3, 4]), (5, [0, 3, 4, 5]), (6, [0, 3, 4, 5]), (7, [0, 3, 4, 5]), (8, [0, 3, 4]), (9, [2])]
def m21 : MC :=
  (.seq
 (.reg false [0] [⟨(some 2), none, false, .mov (.k .nil)⟩])
 (.seq
 (.reg false [0, 3] [⟨(some 6), none, true, .bs 6 0 (.st (.cons (.int .i64 0) (.cons (.int .i64 0) (.cons (.int .i64 0) (.cons (.sl true 1 .nil) (.cons (.sl true 1 .nil) (.cons (.int .i64 0) .nil))))))) []⟩,
 ⟨(some 3), none, false, .mov (.t 6)⟩])
 (.seq
 (.seq
 (.reg false [0, 3, 4] [⟨(some 4), none, false, .mov (.k (.d (.int .i64 0)))⟩])
 (.block 0
 (.loop
 (.seq
 (.seq
 (.reg false [0, 3, 4, 10] [⟨(some 7), none, false, .mov (.t 4)⟩,
 ⟨(some 8), none, false, .mov (.t 0)⟩,
 ⟨(some 9), none, false, .len false (.t 8)⟩,
 ⟨(some 10), none, false, .bin .lss (.t 7) (.t 9)⟩])
 (.cond (.t 10)
 .skip
 (.exit 0)))
 (.seq
 (.block 1
 (.seq
 (.reg false [0, 3, 4, 5] [⟨(some 13), none, false, .mov (.t 0)⟩,
 ⟨(some 14), none, false, .mov (.t 4)⟩,
 ⟨(some 15), none, false, .ia 6 (.t 13) (.t 14)⟩,
 ⟨(some 16), none, false, .ld (some 6) (.t 15)⟩,
 ⟨(some 5), none, true, .alloc (.st (.cons (.int .i64 0) (.cons (.int .i64 0) (.cons (.int .i64 0) (.cons (.sl true 1 .nil) (.cons (.sl true 1 .nil) (.cons (.int .i64 0) .nil)))))))⟩,
 ⟨none, none, true, .st 6 (.t 5) (.t 16)⟩])
 (.seq
 (.reg false [0, 3, 4, 5] [⟨(some 17), none, false, .fa 3 3 (.t 5)⟩,
 ⟨(some 18), none, false, .ld none (.t 17)⟩,
 ⟨(some 19), none, true, .call 37 [(.t 18)]⟩,
 ⟨(some 20), none, false, .fa 3 3 (.t 5)⟩,
 ⟨none, none, true, .st 1 (.t 20) (.t 19)⟩])
 (.seq
 (.reg false [0, 3, 4, 5] [⟨(some 21), none, false, .fa 4 4 (.t 5)⟩,
 ⟨(some 22), none, false, .ld none (.t 21)⟩,
 ⟨(some 23), none, true, .call 37 [(.t 22)]⟩,
 ⟨(some 24), none, false, .fa 4 4 (.t 5)⟩,
 ⟨none, none, true, .st 1 (.t 24) (.t 23)⟩])
 (.reg false [0, 3, 4] [⟨(some 25), none, false, .mov (.t 3)⟩,
 ⟨(some 26), none, false, .ld (some 6) (.t 5)⟩,
 ⟨(some 27), none, true, .bs 6 1 (.st (.cons (.int .i64 0) (.cons (.int .i64 0) (.cons (.int .i64 0) (.cons (.sl true 1 .nil) (.cons (.sl true 1 .nil) (.cons (.int .i64 0) .nil))))))) [(0, (.t 26))]⟩,
 ⟨(some 28), none, true, .app 6 80 (.t 25) (.t 27)⟩,
 ⟨(some 3), none, false, .mov (.t 28)⟩])))))
 (.reg false [0, 3, 4] [⟨(some 11), none, false, .mov (.t 4)⟩,
 ⟨(some 12), none, false, .bin .add (.t 11) (.k (.d (.int .i64 1)))⟩,
 ⟨(some 4), none, false, .mov (.t 12)⟩]))))))
 (.seq
 (.reg false [2] [⟨(some 29), none, false, .mov (.t 3)⟩,
 ⟨(some 2), none, false, .mov (.t 29)⟩])
 .ret))))
theorem c21 : (Go.Proofs.Try.f21).body.bind (comp prog.P (1, (Go.Proofs.Try.f21).ntmps) lv21) = some m21 := by kernel_rfl
theorem r21 : resOK prog.P (Go.Proofs.Try.f21).results.toList = true := by kernel_rfl

end Go.Pe.Try
