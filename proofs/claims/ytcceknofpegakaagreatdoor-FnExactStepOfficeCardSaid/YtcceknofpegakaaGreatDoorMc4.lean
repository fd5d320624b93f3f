/-
The compact code of the functions that the law reaches, printed by gen.py, each with the proof that the machine's code is compiled to it.
-/
import Derived.Test.YtcceknofpegakaaGreatDoorMc1
import Derived.Test.YtcceknofpegakaaGreatDoorProg
import Derived.KernelRfl
set_option maxRecDepth 100000
namespace Go.Pe.Tryz
open Go.Pe
def lv256 : List (Nat × List Nat) := [(0, [0, 1]), (1, [0, 1, 7]), (2, [0, 1, 15]), (3, [0, 1]), (4, [4])]
def m256 : MC :=
  (.seq
 (.reg false [0, 1] [oQ 4 (.mov (.k (.d (.str []))))])
 (.seq
 (.block 0
 (.loop
 (.seq
 (.seq
 (.reg false [0, 1, 7] [oQ 5 (.mov (.t 0)),
 oQ 6 (.len true (.t 5)),
 oQ 7 (.bin .gtr (.t 6) (kI 0))])
 (.cond (.t 7)
 .skip
 (.exit 0)))
 (.block 1
 (.seq
 (.seq
 (.reg false [0, 1, 15] [oQ 8 (.mov (.t 1)),
 oQ 9 (.mov (.t 0)),
 oQ 10 (.mov (.t 0)),
 oQ 11 (.len true (.t 10)),
 oQ 12 (.bin .sub (.t 11) (kI 1)),
 oQ 13 (.ix (.t 9) (.t 12)),
 oX 14 (.call 287 [(.t 8), (.t 13)]),
 oQ 15 (.un .not (.t 14))])
 (.cond (.t 15)
 (.exit 0)
 .skip))
 (.reg false [0, 1] [oQ 16 (.mov (.t 0)),
 oQ 17 (.mov (.t 0)),
 oQ 18 (.len true (.t 17)),
 oQ 19 (.bin .sub (.t 18) (kI 1)),
 oQ 20 (.sls (.t 16) none (some (.t 19))),
 oQ 0 (.mov (.t 20))]))))))
 (.seq
 (.reg false [4] [oQ 21 (.mov (.t 0)),
 oQ 4 (.mov (.t 21))])
 .ret)))
theorem c256 : (Go.Proofs.Tryz.f256).body.bind (comp prog.P (0, (Go.Proofs.Tryz.f256).ntmps) lv256) = some m256 := by kernel_rfl
theorem r256 : resOK prog.P (Go.Proofs.Tryz.f256).results.toList = true := by kernel_rfl
def lv276 : List (Nat × List Nat) := [(0, [0, 1, 2, 6]), (1, [0, 1, 2, 6, 12]), (2, [0, 1, 2, 6]), (3, [0, 1, 2, 6, 7]), (4, [0, 1, 2, 6, 7, 30]), (5, [0, 1, 2, 6, 7]), (6, [0, 1, 2, 6, 7]), (1000006, [3, 15, 16, 17, 1, 0, 1, 1, 1, 2, 1, 3, 1, 4, 1, 5, 1, 6, 1, 7, 1, 8, 1, 9, 1, 10, 1, 11, 1, 12, 1, 13, 1, 14, 2, 15, 2, 16, 2, 17, 0])]
def m276 : MC :=
  (.seq
 (.reg false [0, 1, 2, 6] [oQ 8 (.mov (.t 1)),
 oQ 9 (.bin .add (.t 8) (kI 1)),
 oQ 6 (.mov (.t 9))])
 (.block 0
 (.loop
 (.seq
 (.seq
 (.reg false [0, 1, 2, 6, 12] [oQ 10 (.mov (.t 6)),
 oQ 11 (.mov (.t 2)),
 oQ 12 (.bin .lss (.t 10) (.t 11))])
 (.cond (.t 12)
 .skip
 (.exit 0)))
 (.seq
 (.block 1
 (.seq
 (.reg false [0, 1, 2, 6, 7] [oQ 15 (.mov (.t 6)),
 oQ 7 (.mov (.t 15))])
 (.block 2
 (.loop
 (.seq
 (.seq
 (.reg true [0, 1, 2, 6, 7, 30] [oQ 16 (.mov (.t 7)),
 oQ 17 (.mov (.t 1)),
 oQ 18 (.bin .gtr (.t 16) (.t 17)),
 oQ 19 (.mov (.t 18)),
 oG 20 19 true (.mov (.t 0)),
 oG 21 19 true (.mov (.t 7)),
 oG 22 19 true (.ia 1 (.t 20) (.t 21)),
 oG 23 19 true (.ld none (.t 22)),
 oG 24 19 true (.mov (.t 0)),
 oG 25 19 true (.mov (.t 7)),
 oG 26 19 true (.bin .sub (.t 25) (kI 1)),
 oG 27 19 true (.ia 1 (.t 24) (.t 26)),
 oG 28 19 true (.ld none (.t 27)),
 oG 29 19 true (.callP 282 [(.t 23), (.t 28)]),
 oQ 30 (.pick (.t 19) (.t 29) (kB false))])
 (.cond (.t 30)
 .skip
 (.exit 2)))
 (.seq
 (.block 3
 (.any [15, 16, 17] [0, 1, 2, 6, 7] (.q 0 (oQ 33 (.mov (.t 0))) (.q 1 (oQ 34 (.mov (.t 7))) (.q 2 (oQ 35 (.mov (.t 0))) (.q 3 (oQ 36 (.mov (.t 7))) (.q 4 (oQ 37 (.bin .sub (.t 36) (kI 1))) (.q 5 (oQ 38 (.mov (.t 0))) (.q 6 (oQ 39 (.mov (.t 7))) (.q 7 (oQ 40 (.bin .sub (.t 39) (kI 1))) (.q 8 (oQ 41 (.ia 1 (.t 38) (.t 40))) (.q 9 (oQ 42 (.ld none (.t 41))) (.q 10 (oQ 43 (.mov (.t 0))) (.q 11 (oQ 44 (.mov (.t 7))) (.q 12 (oQ 45 (.ia 1 (.t 43) (.t 44))) (.q 13 (oQ 46 (.ld none (.t 45))) (.q 14 (oQ 47 (.ia 1 (.t 33) (.t 34))) (.e 15 (oN (.st 1 (.t 47) (.t 42))) (.e 16 (oQ 48 (.ia 1 (.t 35) (.t 37))) (.e 17 (oN (.st 1 (.t 48) (.t 46))) .done))))))))))))))))))))
 (.reg false [0, 1, 2, 6, 7] [oQ 31 (.mov (.t 7)),
 oQ 32 (.bin .sub (.t 31) (kI 1)),
 oQ 7 (.mov (.t 32))])))))))
 (.reg false [0, 1, 2, 6] [oQ 13 (.mov (.t 6)),
 oQ 14 (.bin .add (.t 13) (kI 1)),
 oQ 6 (.mov (.t 14))]))))))
theorem c276 : (Go.Proofs.Tryz.f276).body.bind (comp prog.P (3, (Go.Proofs.Tryz.f276).ntmps) lv276) = some m276 := by kernel_rfl
theorem r276 : resOK prog.P (Go.Proofs.Tryz.f276).results.toList = true := by kernel_rfl
def lv282 : List (Nat × List Nat) := [(0, [0, 1]), (1, [4])]
def m282 : MC :=
  (.seq
 (.reg false [0, 1] [oQ 4 (.mov (kB false))])
 (.seq
 (.reg false [4] [oQ 5 (.mov (.t 0)),
 oX 6 (.call 306 [(.t 5)]),
 oQ 7 (.mov (.t 6)),
 oG 8 7 true (.mov (.t 1)),
 oH 9 7 true (.call 306 [(.t 8)]),
 oG 10 7 true (.un .not (.t 9)),
 oQ 11 (.pick (.t 7) (.t 10) (kB false)),
 oQ 12 (.mov (.t 11)),
 oG 13 12 false (.mov (.t 0)),
 oG 14 12 false (.mov (.t 1)),
 oG 15 12 false (.bin .lss (.t 13) (.t 14)),
 oQ 16 (.pick (.t 12) (kB true) (.t 15)),
 oQ 4 (.mov (.t 16))])
 .ret))
theorem c282 : (Go.Proofs.Tryz.f282).body.bind (comp prog.P (2, (Go.Proofs.Tryz.f282).ntmps) lv282) = some m282 := by kernel_rfl
theorem r282 : resOK prog.P (Go.Proofs.Tryz.f282).results.toList = true := by kernel_rfl
def lv286 : List (Nat × List Nat) := [(0, [0, 2]), (1, [0, 2, 4]), (2, [0]), (3, [0, 2]), (4, [0, 2, 8]), (5, [0, 2]), (6, [0, 2]), (7, [0, 2, 14]), (8, [0, 2]), (9, [0, 2]), (10, [2])]
def m286 : MC :=
  (.seq
 (.reg false [0, 2] [oQ 2 (.mov (kI 0))])
 (.seq
 (.seq
 (.reg false [0, 2, 4] [oQ 3 (.mov (.t 0)),
 oQ 4 (.bin .geq (.t 3) (.k (.d (.int .u64 4294967296))))])
 (.cond (.t 4)
 (.seq
 (.reg false [0] [oQ 5 (.mov (.t 0)),
 oQ 6 (.shr (.t 5) (.k (.d (.int .u64 32)))),
 oQ 0 (.mov (.t 6))])
 (.reg false [0, 2] [oQ 2 (.mov (kI 32))]))
 .skip))
 (.seq
 (.seq
 (.reg false [0, 2, 8] [oQ 7 (.mov (.t 0)),
 oQ 8 (.bin .geq (.t 7) (.k (.d (.int .u64 65536))))])
 (.cond (.t 8)
 (.seq
 (.reg false [0, 2] [oQ 9 (.mov (.t 0)),
 oQ 10 (.shr (.t 9) (.k (.d (.int .u64 16)))),
 oQ 0 (.mov (.t 10))])
 (.reg false [0, 2] [oQ 11 (.mov (.t 2)),
 oQ 12 (.bin .add (.t 11) (kI 16)),
 oQ 2 (.mov (.t 12))]))
 .skip))
 (.seq
 (.seq
 (.reg false [0, 2, 14] [oQ 13 (.mov (.t 0)),
 oQ 14 (.bin .geq (.t 13) (.k (.d (.int .u64 256))))])
 (.cond (.t 14)
 (.seq
 (.reg false [0, 2] [oQ 15 (.mov (.t 0)),
 oQ 16 (.shr (.t 15) (.k (.d (.int .u64 8)))),
 oQ 0 (.mov (.t 16))])
 (.reg false [0, 2] [oQ 17 (.mov (.t 2)),
 oQ 18 (.bin .add (.t 17) (kI 8)),
 oQ 2 (.mov (.t 18))]))
 .skip))
 (.seq
 (.reg false [2] [oQ 19 (.mov (.t 2)),
 oQ 20 (.mov (.t 0)),
 oQ 21 (.conv .u8 (.t 20)),
 oQ 22 (.ix (.k (.d (.str [0, 1, 2, 2, 3, 3, 3, 3, 4, 4, 4, 4, 4, 4, 4, 4, 5, 5, 5, 5, 5, 5, 5, 5, 5, 5, 5, 5, 5, 5, 5, 5, 6, 6, 6, 6, 6, 6, 6, 6, 6, 6, 6, 6, 6, 6, 6, 6, 6, 6, 6, 6, 6, 6, 6, 6, 6, 6, 6, 6, 6, 6, 6, 6, 7, 7, 7, 7, 7, 7, 7, 7, 7, 7, 7, 7, 7, 7, 7, 7, 7, 7, 7, 7, 7, 7, 7, 7, 7, 7, 7, 7, 7, 7, 7, 7, 7, 7, 7, 7, 7, 7, 7, 7, 7, 7, 7, 7, 7, 7, 7, 7, 7, 7, 7, 7, 7, 7, 7, 7, 7, 7, 7, 7, 7, 7, 7, 7, 8, 8, 8, 8, 8, 8, 8, 8, 8, 8, 8, 8, 8, 8, 8, 8, 8, 8, 8, 8, 8, 8, 8, 8, 8, 8, 8, 8, 8, 8, 8, 8, 8, 8, 8, 8, 8, 8, 8, 8, 8, 8, 8, 8, 8, 8, 8, 8, 8, 8, 8, 8, 8, 8, 8, 8, 8, 8, 8, 8, 8, 8, 8, 8, 8, 8, 8, 8, 8, 8, 8, 8, 8, 8, 8, 8, 8, 8, 8, 8, 8, 8, 8, 8, 8, 8, 8, 8, 8, 8, 8, 8, 8, 8, 8, 8, 8, 8, 8, 8, 8, 8, 8, 8, 8, 8, 8, 8, 8, 8, 8, 8, 8, 8, 8, 8, 8, 8, 8, 8, 8, 8, 8, 8, 8, 8, 8, 8]))) (.t 21)),
 oQ 23 (.conv .i64 (.t 22)),
 oQ 24 (.bin .add (.t 19) (.t 23)),
 oQ 2 (.mov (.t 24))])
 .ret)))))
theorem c286 : (Go.Proofs.Tryz.f286).body.bind (comp prog.P (0, (Go.Proofs.Tryz.f286).ntmps) lv286) = some m286 := by kernel_rfl
theorem r286 : resOK prog.P (Go.Proofs.Tryz.f286).results.toList = true := by kernel_rfl
def lv287 : List (Nat × List Nat) := [(0, [0, 1]), (1, [0, 4])]
def m287 : MC :=
  (.seq
 (.reg false [0, 1] [oQ 4 (.mov (kB false))])
 (.seq
 (.reg false [0, 4] [oQ 5 (.mov (.t 0)),
 oQ 6 (.mov (.t 1)),
 oQ 7 (.nck (.t 5)),
 oQ 8 (.iar 256 1 (.t 7) (.t 6)),
 oQ 9 (.ld none (.t 8)),
 oQ 4 (.mov (.t 9))])
 .ret))
theorem c287 : (Go.Proofs.Tryz.f287).body.bind (comp prog.P (2, (Go.Proofs.Tryz.f287).ntmps) lv287) = some m287 := by kernel_rfl
theorem r287 : resOK prog.P (Go.Proofs.Tryz.f287).results.toList = true := by kernel_rfl
def lv306 : List (Nat × List Nat) := [(0, [0]), (1, [2])]
def m306 : MC :=
  (.seq
 (.reg false [0] [oQ 2 (.mov (kB false))])
 (.seq
 (.reg false [2] [oQ 3 (.mov (.t 0)),
 oQ 4 (.mov (.t 0)),
 oQ 5 (.bin .neq (.t 3) (.t 4)),
 oQ 2 (.mov (.t 5))])
 .ret))
theorem c306 : (Go.Proofs.Tryz.f306).body.bind (comp prog.P (1, (Go.Proofs.Tryz.f306).ntmps) lv306) = some m306 := by kernel_rfl
theorem r306 : resOK prog.P (Go.Proofs.Tryz.f306).results.toList = true := by kernel_rfl
end Go.Pe.Tryz
