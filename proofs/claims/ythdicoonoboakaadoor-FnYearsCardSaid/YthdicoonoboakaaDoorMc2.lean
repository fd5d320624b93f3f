/-
The compact code of the functions that the law reaches, printed by gen.py, each with the proof that the machine's code is compiled to it.
-/
import Derived.Test.YthdicoonoboakaaDoorMc1
import Derived.Test.YthdicoonoboakaaDoorProg
import Derived.KernelRfl
set_option maxRecDepth 100000
namespace Go.Pe.Tryd
open Go.Pe
def lv36 : List (Nat × List Nat) := [(0, [0, 1, 2]), (1, [0, 1, 2, 10]), (2, [0, 6]), (3, [0, 1, 2, 7]), (4, [0, 1, 7, 8]), (5, [0, 1, 7, 8, 25]), (6, [0, 1, 7, 8, 25, 26]), (7, [0, 6]), (8, [0, 1, 7, 8, 37]), (9, [0, 6]), (10, [0, 6])]
def m36 : MC :=
  (.seq
 (.reg false [0, 1, 2] [oQ 6 (.mov (.k (.d (.str []))))])
 (.seq
 (.seq
 (.reg false [0, 1, 2, 10] [oQ 9 (.mov (.t 1)),
 oQ 10 (.bin .eql (.t 9) (.k (.d (.str []))))])
 (.cond (.t 10)
 (.seq
 (.reg false [0, 6] [oQ 11 (.mov (.t 2)),
 oQ 12 (.sls (.t 11) none (some (kI 1))),
 oQ 6 (.mov (.t 12))])
 .ret)
 .skip))
 (.seq
 (.reg false [0, 1, 2, 7] [oQ 13 (.mov (.t 0)),
 oQ 14 (.mov (.t 1)),
 oQ 15 (.len true (.t 14)),
 oX 16 (.call 49 [(.t 13), (.t 15)]),
 oQ 7 (.mov (.t 16))])
 (.seq
 (.reg false [0, 1, 7, 8] [oQ 17 (.mov (.t 2)),
 oQ 18 (.mov (.t 0)),
 oQ 19 (.mov (.t 2)),
 oQ 20 (.len true (.t 19)),
 oX 21 (.call 49 [(.t 18), (.t 20)]),
 oQ 22 (.sls (.t 17) (some (.t 21)) none),
 oQ 23 (.sls (.t 22) none (some (kI 1))),
 oQ 8 (.mov (.t 23))])
 (.seq
 (.seq
 (.reg false [0, 1, 7, 8, 25] [oQ 24 (.mov (.t 0)),
 oX 25 (.call 49 [(.t 24), (kI 3)])])
 (.block 0
 (.seq
 (.reg false [0, 1, 7, 8, 25, 26] [oQ 27 (.bin .eql (.t 25) (kI 0)),
 oQ 26 (.mov (.t 27))])
 (.cond (.t 26)
 (.seq
 (.reg true [0, 6] [oQ 28 (.mov (.t 1)),
 oQ 29 (.mov (.t 7)),
 oQ 30 (.sls (.t 28) none (some (.t 29))),
 oQ 31 (.mov (.t 8)),
 oQ 32 (.bin .add (.t 30) (.t 31)),
 oQ 33 (.mov (.t 1)),
 oQ 34 (.mov (.t 7)),
 oQ 35 (.sls (.t 33) (some (.t 34)) none),
 oQ 36 (.bin .add (.t 32) (.t 35)),
 oQ 6 (.mov (.t 36))])
 .ret)
 (.seq
 (.reg false [0, 1, 7, 8, 37] [oQ 38 (.bin .eql (.t 25) (kI 1)),
 oQ 37 (.mov (.t 38))])
 (.cond (.t 37)
 (.seq
 (.reg true [0, 6] [oQ 39 (.mov (.t 1)),
 oQ 40 (.mov (.t 7)),
 oQ 41 (.sls (.t 39) none (some (.t 40))),
 oQ 42 (.mov (.t 8)),
 oQ 43 (.bin .add (.t 41) (.t 42)),
 oQ 44 (.mov (.t 1)),
 oQ 45 (.mov (.t 7)),
 oQ 46 (.bin .add (.t 45) (kI 1)),
 oQ 47 (.sls (.t 44) (some (.t 46)) none),
 oQ 48 (.bin .add (.t 43) (.t 47)),
 oQ 6 (.mov (.t 48))])
 .ret)
 .skip))))))
 (.seq
 (.reg true [0, 6] [oQ 49 (.mov (.t 1)),
 oQ 50 (.mov (.t 7)),
 oQ 51 (.sls (.t 49) none (some (.t 50))),
 oQ 52 (.mov (.t 1)),
 oQ 53 (.mov (.t 7)),
 oQ 54 (.bin .add (.t 53) (kI 1)),
 oQ 55 (.sls (.t 52) (some (.t 54)) none),
 oQ 56 (.bin .add (.t 51) (.t 55)),
 oQ 6 (.mov (.t 56))])
 .ret))))))
theorem c36 : (Go.Proofs.Tryd.f36).body.bind (comp prog.P (3, (Go.Proofs.Tryd.f36).ntmps) lv36) = some m36 := by kernel_rfl
theorem r36 : resOK prog.P (Go.Proofs.Tryd.f36).results.toList = true := by kernel_rfl
def lv37 : List (Nat × List Nat) := [(0, [0, 1]), (1, [0, 1, 5]), (2, [0, 1, 5, 6]), (3, [0, 1, 5, 6, 7]), (4, [0, 1, 5, 6, 7, 12]), (5, [0, 1, 5, 6, 7]), (6, [0, 1, 5, 6, 7, 19]), (7, [0, 1, 5, 7]), (8, [0, 1, 5, 6, 7]), (9, [4])]
def m37 : MC :=
  (.seq
 (.reg false [0, 1] [oQ 4 (.mov (.k .nil))])
 (.seq
 (.reg false [0, 1, 5] [oX 8 (.bs 1 0 (.str []) []),
 oQ 5 (.mov (.t 8))])
 (.seq
 (.reg false [0, 1, 5, 6] [oQ 6 (.mov (kI 0))])
 (.seq
 (.seq
 (.reg false [0, 1, 5, 6, 7] [oQ 7 (.mov (kI 0))])
 (.block 0
 (.loop
 (.seq
 (.seq
 (.reg false [0, 1, 5, 6, 7, 12] [oQ 9 (.mov (.t 7)),
 oQ 10 (.mov (.t 0)),
 oQ 11 (.len true (.t 10)),
 oQ 12 (.bin .lss (.t 9) (.t 11))])
 (.cond (.t 12)
 .skip
 (.exit 0)))
 (.seq
 (.block 1
 (.seq
 (.reg false [0, 1, 5, 6, 7, 19] [oQ 15 (.mov (.t 0)),
 oQ 16 (.mov (.t 7)),
 oQ 17 (.ix (.t 15) (.t 16)),
 oQ 18 (.mov (.t 1)),
 oQ 19 (.bin .eql (.t 17) (.t 18))])
 (.cond (.t 19)
 (.seq
 (.reg false [0, 1, 5, 7] [oQ 20 (.mov (.t 5)),
 oQ 21 (.mov (.t 0)),
 oQ 22 (.mov (.t 6)),
 oQ 23 (.mov (.t 7)),
 oQ 24 (.sls (.t 21) (some (.t 22)) (some (.t 23))),
 oX 25 (.bs 1 1 (.str []) [(0, (.t 24))]),
 oX 26 (.app 1 16 (.t 20) (.t 25)),
 oQ 5 (.mov (.t 26))])
 (.reg false [0, 1, 5, 6, 7] [oQ 27 (.mov (.t 7)),
 oQ 28 (.bin .add (.t 27) (kI 1)),
 oQ 6 (.mov (.t 28))]))
 .skip)))
 (.reg false [0, 1, 5, 6, 7] [oQ 13 (.mov (.t 7)),
 oQ 14 (.bin .add (.t 13) (kI 1)),
 oQ 7 (.mov (.t 14))]))))))
 (.seq
 (.reg false [4] [oQ 29 (.mov (.t 5)),
 oQ 30 (.mov (.t 0)),
 oQ 31 (.mov (.t 6)),
 oQ 32 (.sls (.t 30) (some (.t 31)) none),
 oX 33 (.bs 1 1 (.str []) [(0, (.t 32))]),
 oX 34 (.app 1 16 (.t 29) (.t 33)),
 oQ 4 (.mov (.t 34))])
 .ret)))))
theorem c37 : (Go.Proofs.Tryd.f37).body.bind (comp prog.P (2, (Go.Proofs.Tryd.f37).ntmps) lv37) = some m37 := by kernel_rfl
theorem r37 : resOK prog.P (Go.Proofs.Tryd.f37).results.toList = true := by kernel_rfl
def lv38 : List (Nat × List Nat) := [(0, [0]), (1, [0, 4]), (2, [0, 4, 15]), (3, [0, 4]), (4, [0, 4, 21]), (5, [2, 3]), (6, [0, 4, 5]), (7, [0, 4, 5, 6]), (8, [0, 4, 5, 6, 25]), (9, [0, 4, 5, 6]), (10, [0, 4, 5, 6, 37]), (11, [2, 3]), (12, [0, 4, 5, 6]), (13, [0, 5, 50]), (14, [0, 5]), (15, [5, 56]), (16, [2, 3]), (17, [2, 3])]
def m38 : MC :=
  (.seq
 (.reg false [0] [oQ 2 (.mov (kI 0)),
 oQ 3 (.mov (kB false))])
 (.seq
 (.reg false [0, 4] [oQ 7 (.mov (.t 0)),
 oQ 4 (.mov (.t 7))])
 (.seq
 (.seq
 (.reg false [0, 4, 15] [oQ 8 (.mov (.t 4)),
 oQ 9 (.len true (.t 8)),
 oQ 10 (.bin .gtr (.t 9) (kI 1)),
 oQ 11 (.mov (.t 10)),
 oG 12 11 true (.mov (.t 4)),
 oG 13 11 true (.ix (.t 12) (kI 0)),
 oG 14 11 true (.bin .eql (.t 13) (.k (.d (.int .u8 45)))),
 oQ 15 (.pick (.t 11) (.t 14) (kB false))])
 (.cond (.t 15)
 (.reg false [0, 4] [oQ 16 (.mov (.t 4)),
 oQ 17 (.sls (.t 16) (some (kI 1)) none),
 oQ 4 (.mov (.t 17))])
 .skip))
 (.seq
 (.seq
 (.reg false [0, 4, 21] [oQ 18 (.mov (.t 4)),
 oQ 19 (.len true (.t 18)),
 oX 20 (.call 45 [(.t 19), (kI 1), (kI 6)]),
 oQ 21 (.un .not (.t 20))])
 (.cond (.t 21)
 (.seq
 (.reg false [2, 3] [oQ 2 (.mov (kI 0)),
 oQ 3 (.mov (kB false))])
 .ret)
 .skip))
 (.seq
 (.reg false [0, 4, 5] [oQ 5 (.mov (kI 0))])
 (.seq
 (.seq
 (.reg false [0, 4, 5, 6] [oQ 6 (.mov (kI 0))])
 (.block 0
 (.loop
 (.seq
 (.seq
 (.reg false [0, 4, 5, 6, 25] [oQ 22 (.mov (.t 6)),
 oQ 23 (.mov (.t 4)),
 oQ 24 (.len true (.t 23)),
 oQ 25 (.bin .lss (.t 22) (.t 24))])
 (.cond (.t 25)
 .skip
 (.exit 0)))
 (.seq
 (.block 1
 (.seq
 (.seq
 (.reg false [0, 4, 5, 6, 37] [oQ 28 (.mov (.t 4)),
 oQ 29 (.mov (.t 6)),
 oQ 30 (.ix (.t 28) (.t 29)),
 oQ 31 (.bin .lss (.t 30) (.k (.d (.int .u8 48)))),
 oQ 32 (.mov (.t 31)),
 oG 33 32 false (.mov (.t 4)),
 oG 34 32 false (.mov (.t 6)),
 oG 35 32 false (.ix (.t 33) (.t 34)),
 oG 36 32 false (.bin .gtr (.t 35) (.k (.d (.int .u8 57)))),
 oQ 37 (.pick (.t 32) (kB true) (.t 36))])
 (.cond (.t 37)
 (.seq
 (.reg false [2, 3] [oQ 2 (.mov (kI 0)),
 oQ 3 (.mov (kB false))])
 .ret)
 .skip))
 (.reg false [0, 4, 5, 6] [oQ 38 (.mov (.t 5)),
 oQ 39 (.bin .mul (kI 10) (.t 38)),
 oQ 40 (.mov (.t 4)),
 oQ 41 (.mov (.t 6)),
 oQ 42 (.ix (.t 40) (.t 41)),
 oQ 43 (.bin .sub (.t 42) (.k (.d (.int .u8 48)))),
 oQ 44 (.conv .i64 (.t 43)),
 oQ 45 (.bin .add (.t 39) (.t 44)),
 oQ 5 (.mov (.t 45))])))
 (.reg false [0, 4, 5, 6] [oQ 26 (.mov (.t 6)),
 oQ 27 (.bin .add (.t 26) (kI 1)),
 oQ 6 (.mov (.t 27))]))))))
 (.seq
 (.seq
 (.reg false [0, 5, 50] [oQ 46 (.mov (.t 4)),
 oQ 47 (.len true (.t 46)),
 oQ 48 (.mov (.t 0)),
 oQ 49 (.len true (.t 48)),
 oQ 50 (.bin .lss (.t 47) (.t 49))])
 (.cond (.t 50)
 (.reg false [0, 5] [oQ 51 (.mov (.t 5)),
 oQ 52 (.un .neg (.t 51)),
 oQ 5 (.mov (.t 52))])
 .skip))
 (.seq
 (.seq
 (.reg false [5, 56] [oQ 53 (.mov (.t 5)),
 oX 54 (.call 41 [(.t 53)]),
 oQ 55 (.mov (.t 0)),
 oQ 56 (.bin .neq (.t 54) (.t 55))])
 (.cond (.t 56)
 (.seq
 (.reg false [2, 3] [oQ 2 (.mov (kI 0)),
 oQ 3 (.mov (kB false))])
 .ret)
 .skip))
 (.seq
 (.reg false [2, 3] [oQ 57 (.mov (.t 5)),
 oQ 2 (.mov (.t 57)),
 oQ 3 (.mov (kB true))])
 .ret)))))))))
theorem c38 : (Go.Proofs.Tryd.f38).body.bind (comp prog.P (1, (Go.Proofs.Tryd.f38).ntmps) lv38) = some m38 := by kernel_rfl
theorem r38 : resOK prog.P (Go.Proofs.Tryd.f38).results.toList = true := by kernel_rfl
def lv39 : List (Nat × List Nat) := [(0, [0, 1]), (1, [0, 1, 7]), (2, [4]), (3, [4])]
def m39 : MC :=
  (.seq
 (.reg false [0, 1] [oQ 4 (.mov (kI 0))])
 (.seq
 (.seq
 (.reg false [0, 1, 7] [oQ 5 (.mov (.t 0)),
 oQ 6 (.mov (.t 1)),
 oQ 7 (.bin .lss (.t 5) (.t 6))])
 (.cond (.t 7)
 (.seq
 (.reg false [4] [oQ 8 (.mov (.t 0)),
 oQ 4 (.mov (.t 8))])
 .ret)
 .skip))
 (.seq
 (.reg false [4] [oQ 9 (.mov (.t 1)),
 oQ 4 (.mov (.t 9))])
 .ret)))
theorem c39 : (Go.Proofs.Tryd.f39).body.bind (comp prog.P (2, (Go.Proofs.Tryd.f39).ntmps) lv39) = some m39 := by kernel_rfl
theorem r39 : resOK prog.P (Go.Proofs.Tryd.f39).results.toList = true := by kernel_rfl
def lv40 : List (Nat × List Nat) := [(0, [0]), (1, [2])]
def m40 : MC :=
  (.seq
 (.reg false [0] [oQ 2 (.mov (.k (.d (.str []))))])
 (.seq
 (.reg false [2] [oQ 3 (.mov (.t 0)),
 oX 4 (.call 50 [(.t 3)]),
 oQ 2 (.mov (.t 4))])
 .ret))
theorem c40 : (Go.Proofs.Tryd.f40).body.bind (comp prog.P (1, (Go.Proofs.Tryd.f40).ntmps) lv40) = some m40 := by kernel_rfl
theorem r40 : resOK prog.P (Go.Proofs.Tryd.f40).results.toList = true := by kernel_rfl
def lv41 : List (Nat × List Nat) := [(0, [0]), (1, [0, 4]), (2, [2]), (3, [0, 10]), (4, [2]), (5, [2])]
def m41 : MC :=
  (.seq
 (.reg false [0] [oQ 2 (.mov (.k (.d (.str []))))])
 (.seq
 (.seq
 (.reg false [0, 4] [oQ 3 (.mov (.t 0)),
 oQ 4 (.bin .lss (.t 3) (kI 0))])
 (.cond (.t 4)
 (.seq
 (.reg false [2] [oQ 5 (.mov (.t 0)),
 oQ 6 (.un .neg (.t 5)),
 oX 7 (.call 41 [(.t 6)]),
 oQ 8 (.bin .add (.k (.d (.str [45]))) (.t 7)),
 oQ 2 (.mov (.t 8))])
 .ret)
 .skip))
 (.seq
 (.seq
 (.reg false [0, 10] [oQ 9 (.mov (.t 0)),
 oQ 10 (.bin .lss (.t 9) (kI 10))])
 (.cond (.t 10)
 (.seq
 (.reg false [2] [oQ 11 (.mov (.t 0)),
 oQ 12 (.mov (.t 0)),
 oQ 13 (.bin .add (.t 12) (kI 1)),
 oQ 14 (.sls (.k (.d (.str [48, 49, 50, 51, 52, 53, 54, 55, 56, 57]))) (some (.t 11)) (some (.t 13))),
 oQ 2 (.mov (.t 14))])
 .ret)
 .skip))
 (.seq
 (.reg true [2] [oQ 15 (.mov (.t 0)),
 oQ 16 (.bin .quo (.t 15) (kI 10)),
 oQ 17 (.callP 41 [(.t 16)]),
 oQ 18 (.mov (.t 0)),
 oQ 19 (.bin .rem (.t 18) (kI 10)),
 oQ 20 (.mov (.t 0)),
 oQ 21 (.bin .rem (.t 20) (kI 10)),
 oQ 22 (.bin .add (.t 21) (kI 1)),
 oQ 23 (.sls (.k (.d (.str [48, 49, 50, 51, 52, 53, 54, 55, 56, 57]))) (some (.t 19)) (some (.t 22))),
 oQ 24 (.bin .add (.t 17) (.t 23)),
 oQ 2 (.mov (.t 24))])
 .ret))))
theorem c41 : (Go.Proofs.Tryd.f41).body.bind (comp prog.P (1, (Go.Proofs.Tryd.f41).ntmps) lv41) = some m41 := by kernel_rfl
theorem r41 : resOK prog.P (Go.Proofs.Tryd.f41).results.toList = true := by kernel_rfl
def lv42 : List (Nat × List Nat) := [(0, [0]), (1, [0, 4]), (2, [0, 4, 5]), (3, [0, 4, 5, 6]), (4, [0, 4, 5, 6, 7]), (5, [0, 4, 5, 6, 7, 20]), (6, [0, 4, 5, 6, 7]), (7, [0, 4, 5, 6, 7, 8]), (8, [0, 4, 5, 6, 7, 8, 37]), (9, [0, 4, 5, 6, 7]), (10, [0, 4, 5, 6, 7]), (11, [0, 4, 5, 45]), (12, [0, 4, 5, 45, 46]), (13, [0, 4, 5]), (14, [0, 4, 5, 51]), (15, [0, 4, 5]), (16, [0, 4, 5, 9]), (17, [0, 4, 5, 9, 58]), (18, [0, 4, 5, 9]), (19, [0, 4, 5, 9]), (20, [0, 2, 3])]
def m42 : MC :=
  (.seq
 (.reg false [0] [oQ 2 (.mov (kI 0)),
 oQ 3 (.mov (.k .nil))])
 (.seq
 (.reg false [0, 4] [oQ 10 (.mov (.t 0)),
 oX 11 (.bs 1 4 (.int .i64 0) [(0, (kI 0)), (1, (kI 20)), (2, (kI 100)), (3, (kI 9999))]),
 oX 12 (.call 34 [(.t 10), (.t 11)]),
 oQ 4 (.mov (.t 12))])
 (.seq
 (.reg false [0, 4, 5] [oX 13 (.bs 5 0 (.st (.cons (.int .i64 0) (.cons (.int .i64 0) (.cons (.int .i64 0) (.cons (.int .i64 0) (.cons (.int .i64 0) .nil)))))) []),
 oQ 5 (.mov (.t 13))])
 (.seq
 (.reg false [0, 4, 5, 6] [oQ 14 (.mov (.t 0)),
 oX 15 (.bs 1 3 (.int .i64 0) [(0, (kI 1900)), (1, (kI 1990)), (2, (kI 2150))]),
 oX 16 (.call 34 [(.t 14), (.t 15)]),
 oQ 6 (.mov (.t 16))])
 (.seq
 (.seq
 (.reg false [0, 4, 5, 6, 7] [oQ 17 (.mov (.t 0)),
 oX 18 (.call 49 [(.t 17), (kI 8)]),
 oQ 7 (.mov (.t 18))])
 (.block 0
 (.loop
 (.seq
 (.seq
 (.reg false [0, 4, 5, 6, 7, 20] [oQ 19 (.mov (.t 7)),
 oQ 20 (.bin .gtr (.t 19) (kI 0))])
 (.cond (.t 20)
 .skip
 (.exit 0)))
 (.seq
 (.block 1
 (.seq
 (.seq
 (.reg false [0, 4, 5, 6, 7, 8] [oX 23 (.bs 5 0 (.st (.cons (.int .i64 0) (.cons (.int .i64 0) (.cons (.int .i64 0) (.cons (.int .i64 0) (.cons (.int .i64 0) .nil)))))) []),
 oQ 24 (.mov (.t 5)),
 oX 25 (.app 5 40 (.t 23) (.t 24)),
 oQ 26 (.mov (.t 0)),
 oQ 27 (.mov (.t 6)),
 oX 28 (.call 33 [(.t 26), (.t 27)]),
 oX 29 (.bs 5 1 (.st (.cons (.int .i64 0) (.cons (.int .i64 0) (.cons (.int .i64 0) (.cons (.int .i64 0) (.cons (.int .i64 0) .nil)))))) [(0, (.t 28))]),
 oX 30 (.app 5 40 (.t 25) (.t 29)),
 oQ 8 (.mov (.t 30))])
 (.seq
 (.reg false [0, 4, 5, 6, 7, 8, 37] [oQ 31 (.mov (.t 4)),
 oQ 32 (.mov (.t 8)),
 oX 33 (.call 21 [(.t 31), (.t 32)]),
 oQ 34 (.mov (.t 33)),
 oG 35 34 false (.mov (.t 0)),
 oH 36 34 false (.call 35 [(.t 35), (kI 30)]),
 oQ 37 (.pick (.t 34) (kB true) (.t 36))])
 (.cond (.t 37)
 (.reg false [0, 4, 5, 6, 7] [oQ 38 (.mov (.t 8)),
 oQ 5 (.mov (.t 38))])
 .skip)))
 (.reg false [0, 4, 5, 6, 7] [oQ 39 (.mov (.t 6)),
 oQ 40 (.mov (.t 0)),
 oX 41 (.bs 1 4 (.int .i64 0) [(0, (kI 1)), (1, (kI 1)), (2, (kI 2)), (3, (kI 5))]),
 oX 42 (.call 34 [(.t 40), (.t 41)]),
 oQ 43 (.bin .add (.t 39) (.t 42)),
 oQ 6 (.mov (.t 43))])))
 (.reg false [0, 4, 5, 6, 7] [oQ 21 (.mov (.t 7)),
 oQ 22 (.bin .sub (.t 21) (kI 1)),
 oQ 7 (.mov (.t 22))]))))))
 (.seq
 (.seq
 (.reg false [0, 4, 5, 45] [oQ 44 (.mov (.t 0)),
 oX 45 (.call 49 [(.t 44), (kI 30)])])
 (.block 2
 (.seq
 (.reg false [0, 4, 5, 45, 46] [oQ 47 (.bin .eql (.t 45) (kI 0)),
 oQ 46 (.mov (.t 47))])
 (.cond (.t 46)
 (.reg false [0, 4, 5] [oQ 48 (.mov (.t 0)),
 oX 49 (.bs 1 2 (.int .i64 0) [(0, (.k (.d (.int .i64 (-1))))), (1, (kI 10000))]),
 oX 50 (.call 34 [(.t 48), (.t 49)]),
 oQ 4 (.mov (.t 50))])
 (.seq
 (.reg false [0, 4, 5, 51] [oQ 52 (.bin .eql (.t 45) (kI 1)),
 oQ 51 (.mov (.t 52))])
 (.cond (.t 51)
 (.seq
 (.reg false [0, 4, 5] [oX 53 (.bs 5 0 (.st (.cons (.int .i64 0) (.cons (.int .i64 0) (.cons (.int .i64 0) (.cons (.int .i64 0) (.cons (.int .i64 0) .nil)))))) []),
 oQ 5 (.mov (.t 53))])
 (.seq
 (.reg false [0, 4, 5, 9] [oQ 9 (.mov (kI 0))])
 (.block 3
 (.loop
 (.seq
 (.seq
 (.reg false [0, 4, 5, 9, 58] [oQ 54 (.mov (.t 9)),
 oQ 55 (.mov (.t 0)),
 oX 56 (.call 49 [(.t 55), (kI 2)]),
 oQ 57 (.bin .add (kI 10) (.t 56)),
 oQ 58 (.bin .lss (.t 54) (.t 57))])
 (.cond (.t 58)
 .skip
 (.exit 3)))
 (.seq
 (.block 4
 (.reg false [0, 4, 5, 9] [oQ 61 (.mov (.t 5)),
 oQ 62 (.mov (.t 9)),
 oQ 63 (.bin .add (kI 2000) (.t 62)),
 oX 64 (.bld (.cons (.int .i64 0) (.cons (.int .i64 0) (.cons (.int .i64 0) (.cons (.int .i64 0) (.cons (.int .i64 0) .nil))))) [(0, (.t 63)), (1, (kI 1))]),
 oX 65 (.bs 5 1 (.st (.cons (.int .i64 0) (.cons (.int .i64 0) (.cons (.int .i64 0) (.cons (.int .i64 0) (.cons (.int .i64 0) .nil)))))) [(0, (.t 64))]),
 oX 66 (.app 5 40 (.t 61) (.t 65)),
 oQ 5 (.mov (.t 66))]))
 (.reg false [0, 4, 5, 9] [oQ 59 (.mov (.t 9)),
 oQ 60 (.bin .add (.t 59) (kI 1)),
 oQ 9 (.mov (.t 60))])))))))
 .skip))))))
 (.seq
 (.reg false [0, 2, 3] [oQ 67 (.mov (.t 4)),
 oQ 68 (.mov (.t 5)),
 oQ 2 (.mov (.t 67)),
 oQ 3 (.mov (.t 68))])
 .ret)))))))
theorem c42 : (Go.Proofs.Tryd.f42).body.bind (comp prog.P (1, (Go.Proofs.Tryd.f42).ntmps) lv42) = some m42 := by kernel_rfl
theorem r42 : resOK prog.P (Go.Proofs.Tryd.f42).results.toList = true := by kernel_rfl
def lv43 : List (Nat × List Nat) := [(0, [1]), (1, [2])]
def m43 : MC :=
  (.seq
 (.reg false [1] [oX 1 (.box (.t 0)),
 oQ 2 (.mov (kI 0))])
 (.seq
 (.reg false [2] [oQ 3 (.fa 2 2 (.t 1)),
 oQ 4 (.ld none (.t 3)),
 oQ 5 (.fa 3 3 (.t 1)),
 oQ 6 (.ld none (.t 5)),
 oQ 7 (.bin .add (.t 4) (.t 6)),
 oQ 8 (.fa 4 4 (.t 1)),
 oQ 9 (.ld none (.t 8)),
 oQ 10 (.bin .add (.t 7) (.t 9)),
 oQ 2 (.mov (.t 10))])
 .ret))
theorem c43 : (Go.Proofs.Tryd.f43).body.bind (comp prog.P (1, (Go.Proofs.Tryd.f43).ntmps) lv43) = some m43 := by kernel_rfl
theorem r43 : resOK prog.P (Go.Proofs.Tryd.f43).results.toList = true := by kernel_rfl
def lv44 : List (Nat × List Nat) := [(0, [0]), (1, [2])]
def m44 : MC :=
  (.seq
 (.reg false [0] [oQ 2 (.mov (kB false))])
 (.seq
 (.reg false [2] [oQ 3 (.mov (.t 0)),
 oX 4 (.call 45 [(.t 3), (kI 0), (kI 9999)]),
 oQ 2 (.mov (.t 4))])
 .ret))
theorem c44 : (Go.Proofs.Tryd.f44).body.bind (comp prog.P (1, (Go.Proofs.Tryd.f44).ntmps) lv44) = some m44 := by kernel_rfl
theorem r44 : resOK prog.P (Go.Proofs.Tryd.f44).results.toList = true := by kernel_rfl
def lv45 : List (Nat × List Nat) := [(0, [0, 1, 2]), (1, [6])]
def m45 : MC :=
  (.seq
 (.reg false [0, 1, 2] [oQ 6 (.mov (kB false))])
 (.seq
 (.reg false [6] [oQ 7 (.mov (.t 0)),
 oQ 8 (.mov (.t 1)),
 oQ 9 (.bin .geq (.t 7) (.t 8)),
 oQ 10 (.mov (.t 9)),
 oG 11 10 true (.mov (.t 0)),
 oG 12 10 true (.mov (.t 2)),
 oG 13 10 true (.bin .leq (.t 11) (.t 12)),
 oQ 14 (.pick (.t 10) (.t 13) (kB false)),
 oQ 6 (.mov (.t 14))])
 .ret))
theorem c45 : (Go.Proofs.Tryd.f45).body.bind (comp prog.P (3, (Go.Proofs.Tryd.f45).ntmps) lv45) = some m45 := by kernel_rfl
theorem r45 : resOK prog.P (Go.Proofs.Tryd.f45).results.toList = true := by kernel_rfl
def lv47 : List (Nat × List Nat) := [(0, [0, 1]), (1, [0, 1, 9]), (2, [4, 5]), (3, [4, 5])]
def m47 : MC :=
  (.seq
 (.reg false [0, 1] [oQ 4 (.mov (.k (.d (.str [])))),
 oQ 5 (.mov (kB false))])
 (.seq
 (.seq
 (.reg false [0, 1, 9] [oQ 6 (.mov (.t 0)),
 oQ 7 (.mov (.t 1)),
 oX 8 (.call 52 [(.t 6), (.t 7)]),
 oQ 9 (.un .not (.t 8))])
 (.cond (.t 9)
 (.seq
 (.reg false [4, 5] [oQ 10 (.mov (.t 0)),
 oQ 4 (.mov (.t 10)),
 oQ 5 (.mov (kB false))])
 .ret)
 .skip))
 (.seq
 (.reg false [4, 5] [oQ 11 (.mov (.t 0)),
 oQ 12 (.mov (.t 0)),
 oQ 13 (.len true (.t 12)),
 oQ 14 (.mov (.t 1)),
 oQ 15 (.len true (.t 14)),
 oQ 16 (.bin .sub (.t 13) (.t 15)),
 oQ 17 (.sls (.t 11) none (some (.t 16))),
 oQ 4 (.mov (.t 17)),
 oQ 5 (.mov (kB true))])
 .ret)))
theorem c47 : (Go.Proofs.Tryd.f47).body.bind (comp prog.P (2, (Go.Proofs.Tryd.f47).ntmps) lv47) = some m47 := by kernel_rfl
theorem r47 : resOK prog.P (Go.Proofs.Tryd.f47).results.toList = true := by kernel_rfl
def lv48 : List (Nat × List Nat) := [(0, [0, 1]), (1, [0, 1, 12]), (2, [4]), (3, [0, 1, 21]), (4, [4]), (5, [0, 1, 5, 6]), (6, [0, 1, 5, 34]), (7, [4]), (8, [4])]
def m48 : MC :=
  (.seq
 (.reg false [0, 1] [oQ 4 (.mov (.k (.d (.str []))))])
 (.seq
 (.seq
 (.reg false [0, 1, 12] [oQ 7 (.mov (.t 0)),
 oQ 8 (.bin .eql (.t 7) (.k (.d (.str [])))),
 oQ 9 (.mov (.t 8)),
 oG 10 9 false (.mov (.t 1)),
 oG 11 9 false (.bin .eql (.t 10) (.k (.d (.str [])))),
 oQ 12 (.pick (.t 9) (kB true) (.t 11))])
 (.cond (.t 12)
 (.seq
 (.reg false [4] [oQ 13 (.mov (.t 0)),
 oQ 4 (.mov (.t 13))])
 .ret)
 .skip))
 (.seq
 (.seq
 (.reg false [0, 1, 21] [oQ 14 (.mov (.t 1)),
 oQ 15 (.len true (.t 14)),
 oQ 16 (.bin .eql (.t 15) (kI 1)),
 oQ 17 (.mov (.t 16)),
 oG 18 17 true (.mov (.t 1)),
 oG 19 17 true (.ix (.t 18) (kI 0)),
 oG 20 17 true (.bin .lss (.t 19) (.k (.d (.int .u8 128)))),
 oQ 21 (.pick (.t 17) (.t 20) (kB false))])
 (.cond (.t 21)
 (.seq
 (.reg true [4] [oQ 22 (.mov (.t 0)),
 oQ 23 (.mov (.t 1)),
 oQ 24 (.ix (.t 23) (kI 0)),
 oQ 25 (.callP 54 [(.t 22), (.t 24)]),
 oQ 26 (.mov (.t 1)),
 oQ 27 (.ix (.t 26) (kI 0)),
 oQ 28 (.callP 53 [(.t 25), (.t 27)]),
 oQ 4 (.mov (.t 28))])
 .ret)
 .skip))
 (.seq
 (.seq
 (.reg false [0, 1, 5, 6] [oQ 30 (.mov (.t 1)),
 oX 31 (.call 55 [(.t 30)]),
 oQ 29 (.mov (.t 31)),
 oQ 32 (.ext (.t 29) 0),
 oQ 33 (.ext (.t 29) 1),
 oX 5 (.alloc (.st (ofL (List.replicate 256 (.bool false))))),
 oN (.st 256 (.t 5) (.t 32)),
 oQ 6 (.mov (.t 33))])
 (.seq
 (.reg false [0, 1, 5, 34] [oQ 34 (.mov (.t 6))])
 (.cond (.t 34)
 (.seq
 (.reg false [4] [oQ 35 (.mov (.t 0)),
 oX 36 (.call 57 [(.t 35), (.t 5)]),
 oX 37 (.call 56 [(.t 36), (.t 5)]),
 oQ 4 (.mov (.t 37))])
 .ret)
 .skip)))
 (.seq
 (.reg false [4] [oQ 38 (.mov (.t 0)),
 oQ 39 (.mov (.t 1)),
 oX 40 (.call 59 [(.t 38), (.t 39)]),
 oQ 41 (.mov (.t 1)),
 oX 42 (.call 58 [(.t 40), (.t 41)]),
 oQ 4 (.mov (.t 42))])
 .ret)))))
theorem c48 : (Go.Proofs.Tryd.f48).body.bind (comp prog.P (2, (Go.Proofs.Tryd.f48).ntmps) lv48) = some m48 := by kernel_rfl
theorem r48 : resOK prog.P (Go.Proofs.Tryd.f48).results.toList = true := by kernel_rfl
def lv49 : List (Nat × List Nat) := [(0, [0, 1]), (1, [0, 1, 7]), (2, [0, 4]), (3, [0, 1, 5]), (4, [0, 1, 5, 11]), (5, [0, 1, 5]), (6, [0, 4])]
def m49 : MC :=
  (.seq
 (.reg false [0, 1] [oQ 4 (.mov (kI 0))])
 (.seq
 (.seq
 (.reg false [0, 1, 7] [oQ 6 (.mov (.t 1)),
 oQ 7 (.bin .leq (.t 6) (kI 1))])
 (.cond (.t 7)
 (.seq
 (.reg false [0, 4] [oQ 4 (.mov (kI 0))])
 .ret)
 .skip))
 (.seq
 (.reg false [0, 1, 5] [oQ 8 (.mov (.t 0)),
 oX 9 (.call 60 [(.t 8)]),
 oQ 5 (.mov (.t 9))])
 (.seq
 (.seq
 (.reg false [0, 1, 5, 11] [oQ 10 (.mov (.t 1)),
 oQ 11 (.bin .gtr (.t 10) (kI 200))])
 (.cond (.t 11)
 (.reg false [0, 1, 5] [oQ 12 (.mov (.t 5)),
 oQ 13 (.bin .mul (.t 12) (kI 256)),
 oQ 14 (.mov (.t 0)),
 oX 15 (.call 60 [(.t 14)]),
 oQ 16 (.bin .add (.t 13) (.t 15)),
 oQ 5 (.mov (.t 16))])
 .skip))
 (.seq
 (.reg false [0, 4] [oQ 17 (.mov (.t 5)),
 oQ 18 (.mov (.t 1)),
 oQ 19 (.bin .rem (.t 17) (.t 18)),
 oQ 4 (.mov (.t 19))])
 .ret)))))
theorem c49 : (Go.Proofs.Tryd.f49).body.bind (comp prog.P (2, (Go.Proofs.Tryd.f49).ntmps) lv49) = some m49 := by kernel_rfl
theorem r49 : resOK prog.P (Go.Proofs.Tryd.f49).results.toList = true := by kernel_rfl
def lv52 : List (Nat × List Nat) := [(0, [0, 1]), (1, [4])]
def m52 : MC :=
  (.seq
 (.reg false [0, 1] [oQ 4 (.mov (kB false))])
 (.seq
 (.reg false [4] [oQ 5 (.mov (.t 0)),
 oQ 6 (.len true (.t 5)),
 oQ 7 (.mov (.t 1)),
 oQ 8 (.len true (.t 7)),
 oQ 9 (.bin .geq (.t 6) (.t 8)),
 oQ 10 (.mov (.t 9)),
 oG 11 10 true (.mov (.t 0)),
 oG 12 10 true (.mov (.t 0)),
 oG 13 10 true (.len true (.t 12)),
 oG 14 10 true (.mov (.t 1)),
 oG 15 10 true (.len true (.t 14)),
 oG 16 10 true (.bin .sub (.t 13) (.t 15)),
 oG 17 10 true (.sls (.t 11) (some (.t 16)) none),
 oG 18 10 true (.mov (.t 1)),
 oG 19 10 true (.bin .eql (.t 17) (.t 18)),
 oQ 20 (.pick (.t 10) (.t 19) (kB false)),
 oQ 4 (.mov (.t 20))])
 .ret))
theorem c52 : (Go.Proofs.Tryd.f52).body.bind (comp prog.P (2, (Go.Proofs.Tryd.f52).ntmps) lv52) = some m52 := by kernel_rfl
theorem r52 : resOK prog.P (Go.Proofs.Tryd.f52).results.toList = true := by kernel_rfl
def lv56 : List (Nat × List Nat) := [(0, [0, 1]), (1, [0, 1, 7]), (2, [0, 1, 12]), (3, [0, 1]), (4, [4])]
def m56 : MC :=
  (.seq
 (.reg false [0, 1] [oQ 4 (.mov (.k (.d (.str []))))])
 (.seq
 (.block 0
 (.loop
 (.seq
 (.seq
 (.reg false [0, 1, 7] [oQ 5 (.mov (.t 0)),
 oQ 6 (.len true (.t 5)),
 oQ 7 (.bin .gtr (.t 6) (kI 0))])
 (.cond (.t 7)
 .skip
 (.exit 0)))
 (.block 1
 (.seq
 (.seq
 (.reg false [0, 1, 12] [oQ 8 (.mov (.t 1)),
 oQ 9 (.mov (.t 0)),
 oQ 10 (.ix (.t 9) (kI 0)),
 oX 11 (.call 66 [(.t 8), (.t 10)]),
 oQ 12 (.un .not (.t 11))])
 (.cond (.t 12)
 (.exit 0)
 .skip))
 (.reg false [0, 1] [oQ 13 (.mov (.t 0)),
 oQ 14 (.sls (.t 13) (some (kI 1)) none),
 oQ 0 (.mov (.t 14))]))))))
 (.seq
 (.reg false [4] [oQ 15 (.mov (.t 0)),
 oQ 4 (.mov (.t 15))])
 .ret)))
theorem c56 : (Go.Proofs.Tryd.f56).body.bind (comp prog.P (0, (Go.Proofs.Tryd.f56).ntmps) lv56) = some m56 := by kernel_rfl
theorem r56 : resOK prog.P (Go.Proofs.Tryd.f56).results.toList = true := by kernel_rfl
def lv57 : List (Nat × List Nat) := [(0, [0, 1]), (1, [0, 1, 7]), (2, [0, 1, 15]), (3, [0, 1]), (4, [4])]
def m57 : MC :=
  (.seq
 (.reg false [0, 1] [oQ 4 (.mov (.k (.d (.str []))))])
 (.seq
 (.block 0
 (.loop
 (.seq
 (.seq
 (.reg false [0, 1, 7] [oQ 5 (.mov (.t 0)),
 oQ 6 (.len true (.t 5)),
 oQ 7 (.bin .gtr (.t 6) (kI 0))])
 (.cond (.t 7)
 .skip
 (.exit 0)))
 (.block 1
 (.seq
 (.seq
 (.reg false [0, 1, 15] [oQ 8 (.mov (.t 1)),
 oQ 9 (.mov (.t 0)),
 oQ 10 (.mov (.t 0)),
 oQ 11 (.len true (.t 10)),
 oQ 12 (.bin .sub (.t 11) (kI 1)),
 oQ 13 (.ix (.t 9) (.t 12)),
 oX 14 (.call 66 [(.t 8), (.t 13)]),
 oQ 15 (.un .not (.t 14))])
 (.cond (.t 15)
 (.exit 0)
 .skip))
 (.reg false [0, 1] [oQ 16 (.mov (.t 0)),
 oQ 17 (.mov (.t 0)),
 oQ 18 (.len true (.t 17)),
 oQ 19 (.bin .sub (.t 18) (kI 1)),
 oQ 20 (.sls (.t 16) none (some (.t 19))),
 oQ 0 (.mov (.t 20))]))))))
 (.seq
 (.reg false [4] [oQ 21 (.mov (.t 0)),
 oQ 4 (.mov (.t 21))])
 .ret)))
theorem c57 : (Go.Proofs.Tryd.f57).body.bind (comp prog.P (0, (Go.Proofs.Tryd.f57).ntmps) lv57) = some m57 := by kernel_rfl
theorem r57 : resOK prog.P (Go.Proofs.Tryd.f57).results.toList = true := by kernel_rfl
def lv60 : List (Nat × List Nat) := [(0, [0]), (1, [0, 3]), (2, [0, 3, 13]), (3, [0, 3]), (4, [0, 3]), (5, [0, 3]), (6, [0, 3, 53]), (7, [0, 2]), (8, [0, 2])]
def m60 : MC :=
  (.seq
 (.reg false [0] [oQ 2 (.mov (kI 0))])
 (.seq
 (.reg false [0, 3] [oQ 3 (.mov (kI 0))])
 (.seq
 (.seq
 (.reg true [0, 3, 13] [oQ 4 (.mov (.t 0)),
 oQ 5 (.nck (.t 4)),
 oQ 6 (.fa 1 1 (.t 5)),
 oQ 7 (.ld none (.t 6)),
 oQ 8 (.mov (.t 0)),
 oQ 9 (.nck (.t 8)),
 oQ 10 (.fa 0 0 (.t 9)),
 oQ 11 (.ld none (.t 10)),
 oQ 12 (.len false (.t 11)),
 oQ 13 (.bin .lss (.t 7) (.t 12))])
 (.cond (.t 13)
 (.reg true [0, 3] [oQ 14 (.mov (.t 0)),
 oQ 15 (.nck (.t 14)),
 oQ 16 (.fa 0 0 (.t 15)),
 oQ 17 (.ld none (.t 16)),
 oQ 18 (.mov (.t 0)),
 oQ 19 (.nck (.t 18)),
 oQ 20 (.fa 1 1 (.t 19)),
 oQ 21 (.ld none (.t 20)),
 oQ 22 (.ia 1 (.t 17) (.t 21)),
 oQ 23 (.ld none (.t 22)),
 oQ 24 (.conv .i64 (.t 23)),
 oQ 3 (.mov (.t 24))])
 .skip))
 (.seq
 (.reg false [0, 3] [oQ 25 (.mov (.t 0)),
 oQ 26 (.nck (.t 25)),
 oQ 27 (.fa 1 1 (.t 26)),
 oQ 28 (.ld none (.t 27)),
 oQ 29 (.bin .add (.t 28) (kI 1)),
 oQ 30 (.nck (.t 25)),
 oQ 31 (.fa 1 1 (.t 30)),
 oN (.st 1 (.t 31) (.t 29))])
 (.seq
 (.reg false [0, 3] [oQ 32 (.mov (.t 0)),
 oQ 33 (.mov (.t 0)),
 oQ 34 (.nck (.t 33)),
 oQ 35 (.fa 2 2 (.t 34)),
 oQ 36 (.ld none (.t 35)),
 oQ 37 (.bin .mul (.t 36) (.k (.d (.int .u64 6364136223846793005)))),
 oQ 38 (.mov (.t 3)),
 oQ 39 (.conv .u64 (.t 38)),
 oQ 40 (.bin .add (.t 37) (.t 39)),
 oQ 41 (.bin .add (.t 40) (.k (.d (.int .u64 103535)))),
 oQ 42 (.nck (.t 32)),
 oQ 43 (.fa 2 2 (.t 42)),
 oN (.st 1 (.t 43) (.t 41))])
 (.seq
 (.seq
 (.reg true [0, 3, 53] [oQ 44 (.mov (.t 0)),
 oQ 45 (.nck (.t 44)),
 oQ 46 (.fa 1 1 (.t 45)),
 oQ 47 (.ld none (.t 46)),
 oQ 48 (.mov (.t 0)),
 oQ 49 (.nck (.t 48)),
 oQ 50 (.fa 0 0 (.t 49)),
 oQ 51 (.ld none (.t 50)),
 oQ 52 (.len false (.t 51)),
 oQ 53 (.bin .leq (.t 47) (.t 52))])
 (.cond (.t 53)
 (.seq
 (.reg false [0, 2] [oQ 54 (.mov (.t 3)),
 oQ 2 (.mov (.t 54))])
 .ret)
 .skip))
 (.seq
 (.reg false [0, 2] [oQ 55 (.mov (.t 0)),
 oQ 56 (.nck (.t 55)),
 oQ 57 (.fa 2 2 (.t 56)),
 oQ 58 (.ld none (.t 57)),
 oQ 59 (.shr (.t 58) (.k (.d (.int .u64 40)))),
 oQ 60 (.bin .and (.t 59) (.k (.d (.int .u64 255)))),
 oQ 61 (.conv .i64 (.t 60)),
 oQ 2 (.mov (.t 61))])
 .ret)))))))
theorem c60 : (Go.Proofs.Tryd.f60).body.bind (comp prog.P (1, (Go.Proofs.Tryd.f60).ntmps) lv60) = some m60 := by kernel_rfl
theorem r60 : resOK prog.P (Go.Proofs.Tryd.f60).results.toList = true := by kernel_rfl
def lv66 : List (Nat × List Nat) := [(0, [0, 1]), (1, [0, 4])]
def m66 : MC :=
  (.seq
 (.reg false [0, 1] [oQ 4 (.mov (kB false))])
 (.seq
 (.reg false [0, 4] [oQ 5 (.mov (.t 0)),
 oQ 6 (.mov (.t 1)),
 oQ 7 (.nck (.t 5)),
 oQ 8 (.iar 256 1 (.t 7) (.t 6)),
 oQ 9 (.ld none (.t 8)),
 oQ 4 (.mov (.t 9))])
 .ret))
theorem c66 : (Go.Proofs.Tryd.f66).body.bind (comp prog.P (2, (Go.Proofs.Tryd.f66).ntmps) lv66) = some m66 := by kernel_rfl
theorem r66 : resOK prog.P (Go.Proofs.Tryd.f66).results.toList = true := by kernel_rfl
end Go.Pe.Tryd
