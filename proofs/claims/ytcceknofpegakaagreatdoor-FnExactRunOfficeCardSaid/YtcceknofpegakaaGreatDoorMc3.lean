/-
The compact code of the functions that the law reaches, printed by gen.py, each with the proof that the machine's code is compiled to it.
-/
import Derived.Test.YtcceknofpegakaaGreatDoorMc1
import Derived.Test.YtcceknofpegakaaGreatDoorProg
import Derived.KernelRfl
set_option maxRecDepth 100000
namespace Go.Pe.Tryz
open Go.Pe
def lv179 : List (Nat × List Nat) := [(0, [0, 1]), (1, [0, 1, 5]), (2, [0, 1, 5, 17]), (3, [0, 1, 5]), (4, [0, 1, 5, 31]), (5, [4]), (6, [4]), (1000006, [0, 1, 1, 1, 2, 1, 3, 1, 5, 1, 8, 1, 9, 1, 10, 3, 2, 0, 3, 2, 4, 2, 6, 2, 7, 2, 11, 1, 12, 0, 2, 6, 2, 4, 2, 7, 2, 11, 1, 12, 0, 2, 6, 2, 0, 2, 4, 2, 7, 2, 11, 1, 12, 0])]
def m179 : MC :=
  (.seq
 (.reg false [0, 1] [oQ 4 (.mov (.k .nil))])
 (.seq
 (.reg false [0, 1, 5] [oQ 5 (.mov (kI 0))])
 (.seq
 (.block 0
 (.loop
 (.seq
 (.seq
 (.reg false [0, 1, 5, 17] [oQ 6 (.mov (.t 5)),
 oQ 7 (.mov (.t 0)),
 oQ 8 (.len false (.t 7)),
 oQ 9 (.bin .lss (.t 6) (.t 8)),
 oQ 10 (.mov (.t 9)),
 oG 11 10 true (.mov (.t 0)),
 oG 12 10 true (.mov (.t 5)),
 oG 13 10 true (.ia 1 (.t 11) (.t 12)),
 oG 14 10 true (.ld none (.t 13)),
 oG 15 10 true (.mov (.t 1)),
 oG 16 10 true (.bin .lss (.t 14) (.t 15)),
 oQ 17 (.pick (.t 10) (.t 16) (kB false))])
 (.cond (.t 17)
 .skip
 (.exit 0)))
 (.block 1
 (.reg false [0, 1, 5] [oQ 18 (.mov (.t 5)),
 oQ 19 (.bin .add (.t 18) (kI 1)),
 oQ 5 (.mov (.t 19))])))))
 (.seq
 (.seq
 (.reg false [0, 1, 5, 31] [oQ 20 (.mov (.t 5)),
 oQ 21 (.mov (.t 0)),
 oQ 22 (.len false (.t 21)),
 oQ 23 (.bin .lss (.t 20) (.t 22)),
 oQ 24 (.mov (.t 23)),
 oG 25 24 true (.mov (.t 0)),
 oG 26 24 true (.mov (.t 5)),
 oG 27 24 true (.ia 1 (.t 25) (.t 26)),
 oG 28 24 true (.ld none (.t 27)),
 oG 29 24 true (.mov (.t 1)),
 oG 30 24 true (.bin .eql (.t 28) (.t 29)),
 oQ 31 (.pick (.t 24) (.t 30) (kB false))])
 (.cond (.t 31)
 (.seq
 (.reg false [4] [oQ 32 (.mov (.t 0)),
 oQ 4 (.mov (.t 32))])
 .ret)
 .skip))
 (.seq
 (.any [] [4] (.q 1 (oQ 34 (.mov (.t 0))) (.q 2 (oQ 35 (.mov (.t 5))) (.q 3 (oQ 36 (.slx 1 (.t 34) none (some (.t 35)))) (.q 5 (oQ 38 (.mov (.t 1))) (.q 8 (oQ 41 (.mov (.t 0))) (.q 9 (oQ 42 (.mov (.t 5))) (.q 10 (oQ 43 (.slx 1 (.t 41) (some (.t 42)) none)) (.br (.e 0 (oX 33 (.bs 1 0 (.int .i64 0) [])) (.br (.e 4 (oX 37 (.app 1 8 (.t 33) (.t 36))) (.e 6 (oX 39 (.bs 1 1 (.int .i64 0) [(0, (.t 38))])) (.e 7 (oX 40 (.app 1 8 (.t 37) (.t 39))) (.e 11 (oX 44 (.app 1 8 (.t 40) (.t 43))) (.q 12 (oQ 4 (.mov (.t 44))) .done)))))
 (.e 6 (oX 39 (.bs 1 1 (.int .i64 0) [(0, (.t 38))])) (.e 4 (oX 37 (.app 1 8 (.t 33) (.t 36))) (.e 7 (oX 40 (.app 1 8 (.t 37) (.t 39))) (.e 11 (oX 44 (.app 1 8 (.t 40) (.t 43))) (.q 12 (oQ 4 (.mov (.t 44))) .done)))))))
 (.e 6 (oX 39 (.bs 1 1 (.int .i64 0) [(0, (.t 38))])) (.e 0 (oX 33 (.bs 1 0 (.int .i64 0) [])) (.e 4 (oX 37 (.app 1 8 (.t 33) (.t 36))) (.e 7 (oX 40 (.app 1 8 (.t 37) (.t 39))) (.e 11 (oX 44 (.app 1 8 (.t 40) (.t 43))) (.q 12 (oQ 4 (.mov (.t 44))) .done)))))))))))))))
 .ret)))))
theorem c179 : (Go.Proofs.Tryz.f179).body.bind (comp prog.P (2, (Go.Proofs.Tryz.f179).ntmps) lv179) = some m179 := by kernel_rfl
theorem r179 : resOK prog.P (Go.Proofs.Tryz.f179).results.toList = true := by kernel_rfl
def lv180 : List (Nat × List Nat) := [(0, [1, 2, 4]), (1, [1, 4, 6, 7]), (2, [1, 4, 6, 7, 8]), (3, [1, 4, 6, 7, 8, 18]), (4, [1, 4, 6, 7, 8]), (5, [1, 4, 6, 7, 8, 9]), (6, [1, 4, 6, 7, 8, 9, 10]), (7, [1, 4, 6, 7, 8, 9, 10, 30]), (8, [1, 4, 6, 7, 8, 9, 10]), (9, [1, 4, 6, 7, 8, 9, 10, 11]), (10, [1, 4, 6, 7, 8, 9, 10, 11, 44]), (11, [1, 4, 6, 7, 8, 9, 10]), (12, [1, 4, 6, 7, 8, 9, 10]), (13, [1, 4, 6, 7, 8]), (14, [4, 5])]
def m180 : MC :=
  (.seq
 (.reg false [1, 2, 4] [oX 2 (.box (.t 0)),
 oX 4 (.alloc (.st (.cons (.int .i64 0) (.cons (.sl true 4 .nil) (.cons (.int .i64 0) (.cons (.int .i64 0) (.cons (.sl true 1 .nil) .nil))))))),
 oQ 5 (.mov (kB false))])
 (.seq
 (.reg false [1, 4, 6, 7] [oQ 12 (.ldv 5 (.t 2)),
 oX 13 (.call 121 [(.t 12)]),
 oX 6 (.alloc (.st (.cons (.int .i64 0) (.cons (.sl true 4 .nil) (.cons (.int .i64 0) (.cons (.int .i64 0) (.cons (.sl true 1 .nil) .nil))))))),
 oN (.st 5 (.t 6) (.t 13)),
 oQ 7 (.mov (kB false))])
 (.seq
 (.seq
 (.reg false [1, 4, 6, 7, 8] [oQ 8 (.mov (kI 0))])
 (.block 0
 (.loop
 (.seq
 (.seq
 (.reg false [1, 4, 6, 7, 8, 18] [oQ 14 (.mov (.t 8)),
 oQ 15 (.fa 1 1 (.t 6)),
 oQ 16 (.ld none (.t 15)),
 oQ 17 (.len false (.t 16)),
 oQ 18 (.bin .lss (.t 14) (.t 17))])
 (.cond (.t 18)
 .skip
 (.exit 0)))
 (.seq
 (.block 1
 (.seq
 (.reg false [1, 4, 6, 7, 8, 9] [oX 21 (.bs 1 0 (.int .i64 0) []),
 oQ 9 (.mov (.t 21))])
 (.seq
 (.seq
 (.reg false [1, 4, 6, 7, 8, 9, 10] [oQ 10 (.mov (kI 0))])
 (.block 2
 (.loop
 (.seq
 (.seq
 (.reg false [1, 4, 6, 7, 8, 9, 10, 30] [oQ 22 (.mov (.t 10)),
 oQ 23 (.fa 1 1 (.t 6)),
 oQ 24 (.ld none (.t 23)),
 oQ 25 (.mov (.t 8)),
 oQ 26 (.ia 4 (.t 24) (.t 25)),
 oQ 27 (.fa 3 3 (.t 26)),
 oQ 28 (.ld none (.t 27)),
 oQ 29 (.len false (.t 28)),
 oQ 30 (.bin .lss (.t 22) (.t 29))])
 (.cond (.t 30)
 .skip
 (.exit 2)))
 (.seq
 (.block 3
 (.seq
 (.reg false [1, 4, 6, 7, 8, 9, 10, 11] [oQ 33 (.fa 1 1 (.t 6)),
 oQ 34 (.ld none (.t 33)),
 oQ 35 (.mov (.t 8)),
 oQ 36 (.ia 4 (.t 34) (.t 35)),
 oQ 37 (.fa 3 3 (.t 36)),
 oQ 38 (.ld none (.t 37)),
 oQ 39 (.mov (.t 10)),
 oQ 40 (.ia 1 (.t 38) (.t 39)),
 oQ 41 (.ld none (.t 40)),
 oQ 11 (.mov (.t 41))])
 (.seq
 (.reg false [1, 4, 6, 7, 8, 9, 10, 11, 44] [oQ 42 (.mov (.t 11)),
 oQ 43 (.mov (.t 1)),
 oQ 44 (.bin .eql (.t 42) (.t 43))])
 (.cond (.t 44)
 (.reg false [1, 4, 6, 7, 8, 9, 10] [oQ 7 (.mov (kB true))])
 (.reg false [1, 4, 6, 7, 8, 9, 10] [oQ 45 (.mov (.t 9)),
 oQ 46 (.mov (.t 11)),
 oX 47 (.bs 1 1 (.int .i64 0) [(0, (.t 46))]),
 oX 48 (.app 1 8 (.t 45) (.t 47)),
 oQ 9 (.mov (.t 48))])))))
 (.reg false [1, 4, 6, 7, 8, 9, 10] [oQ 31 (.mov (.t 10)),
 oQ 32 (.bin .add (.t 31) (kI 1)),
 oQ 10 (.mov (.t 32))]))))))
 (.reg false [1, 4, 6, 7, 8] [oQ 49 (.fa 1 1 (.t 6)),
 oQ 50 (.ld none (.t 49)),
 oQ 51 (.mov (.t 8)),
 oQ 52 (.mov (.t 9)),
 oQ 53 (.ia 4 (.t 50) (.t 51)),
 oQ 54 (.fa 3 3 (.t 53)),
 oN (.st 1 (.t 54) (.t 52))]))))
 (.reg false [1, 4, 6, 7, 8] [oQ 19 (.mov (.t 8)),
 oQ 20 (.bin .add (.t 19) (kI 1)),
 oQ 8 (.mov (.t 20))]))))))
 (.seq
 (.reg false [4, 5] [oQ 55 (.ldv 5 (.t 6)),
 oQ 56 (.mov (.t 7)),
 oN (.st 5 (.t 4) (.t 55)),
 oQ 5 (.mov (.t 56))])
 .ret))))
theorem c180 : (Go.Proofs.Tryz.f180).body.bind (comp prog.P (2, (Go.Proofs.Tryz.f180).ntmps) lv180) = some m180 := by kernel_rfl
theorem r180 : resOK prog.P (Go.Proofs.Tryz.f180).results.toList = true := by kernel_rfl
def lv181 : List (Nat × List Nat) := [(0, [1, 2, 4]), (1, [1, 2, 4, 6, 7]), (2, [2, 4, 6, 7]), (3, [2, 4, 6, 7, 29]), (4, [2, 4, 6, 7]), (5, [4, 5]), (6, [2, 4, 6, 7, 29, 60]), (7, [2, 4, 6, 7]), (8, [2, 4, 6, 7, 66]), (9, [2, 4, 6, 7]), (10, [4, 5]), (1000001, [0, 1, 2, 1, 3, 1, 4, 1, 5, 1, 6, 3, 2, 0, 3, 2, 1, 3, 2, 7, 2, 8, 2, 9, 2, 10, 0, 2, 8, 2, 7, 2, 9, 2, 10, 0, 3, 2, 7, 3, 2, 1, 2, 8, 2, 9, 2, 10, 0, 2, 8, 2, 1, 2, 9, 2, 10, 0, 2, 8, 3, 2, 1, 2, 7, 2, 9, 2, 10, 0, 2, 7, 2, 1, 2, 9, 2, 10, 0, 3, 2, 7, 3, 2, 0, 3, 2, 1, 2, 8, 2, 9, 2, 10, 0, 2, 8, 2, 1, 2, 9, 2, 10, 0, 2, 8, 2, 0, 2, 1, 2, 9, 2, 10, 0, 2, 8, 3, 2, 0, 3, 2, 1, 2, 7, 2, 9, 2, 10, 0, 2, 7, 2, 1, 2, 9, 2, 10, 0, 2, 7, 2, 0, 2, 1, 2, 9, 2, 10, 0]), (1000002, [1, 13, 1, 1, 1, 2, 1, 3, 1, 4, 1, 6, 1, 7, 1, 8, 1, 9, 1, 10, 2, 0, 2, 5, 2, 11, 1, 12, 2, 13, 0]), (1000004, [1, 14, 1, 0, 1, 1, 1, 2, 1, 3, 1, 7, 1, 8, 2, 4, 1, 5, 1, 6, 2, 9, 1, 10, 2, 11, 2, 12, 1, 13, 2, 14, 0]), (1000005, [2, 16, 17, 1, 1, 1, 3, 3, 2, 0, 3, 2, 2, 2, 4, 1, 5, 1, 6, 1, 7, 2, 8, 1, 9, 1, 10, 1, 11, 1, 12, 2, 13, 2, 14, 1, 15, 2, 16, 2, 17, 0, 2, 4, 2, 2, 1, 5, 1, 6, 1, 7, 2, 8, 1, 9, 1, 10, 1, 11, 1, 12, 2, 13, 2, 14, 1, 15, 2, 16, 2, 17, 0, 3, 2, 2, 3, 2, 0, 2, 4, 1, 5, 1, 6, 1, 7, 2, 8, 1, 9, 1, 10, 1, 11, 1, 12, 2, 13, 2, 14, 1, 15, 2, 16, 2, 17, 0, 2, 4, 1, 5, 1, 6, 1, 7, 3, 2, 0, 2, 8, 1, 9, 1, 10, 1, 11, 1, 12, 2, 13, 2, 14, 1, 15, 2, 16, 2, 17, 0, 2, 8, 1, 9, 1, 10, 1, 11, 1, 12, 3, 2, 0, 2, 13, 2, 14, 1, 15, 2, 16, 2, 17, 0, 2, 13, 3, 2, 0, 2, 14, 1, 15, 2, 16, 2, 17, 0, 2, 14, 1, 15, 2, 0, 2, 16, 2, 17, 0, 2, 4, 3, 2, 0, 2, 2, 1, 5, 1, 6, 1, 7, 2, 8, 1, 9, 1, 10, 1, 11, 1, 12, 2, 13, 2, 14, 1, 15, 2, 16, 2, 17, 0, 2, 2, 1, 5, 1, 6, 1, 7, 3, 2, 0, 2, 8, 1, 9, 1, 10, 1, 11, 1, 12, 2, 13, 2, 14, 1, 15, 2, 16, 2, 17, 0, 2, 8, 1, 9, 1, 10, 1, 11, 1, 12, 3, 2, 0, 2, 13, 2, 14, 1, 15, 2, 16, 2, 17, 0, 2, 13, 3, 2, 0, 2, 14, 1, 15, 2, 16, 2, 17, 0, 2, 14, 1, 15, 2, 0, 2, 16, 2, 17, 0]), (1000010, [2, 10, 11, 1, 1, 1, 3, 3, 2, 0, 3, 2, 2, 2, 4, 1, 5, 1, 6, 2, 7, 2, 8, 1, 9, 2, 10, 2, 11, 0, 2, 4, 2, 2, 1, 5, 1, 6, 2, 7, 2, 8, 1, 9, 2, 10, 2, 11, 0, 3, 2, 2, 3, 2, 0, 2, 4, 1, 5, 1, 6, 2, 7, 2, 8, 1, 9, 2, 10, 2, 11, 0, 2, 4, 1, 5, 1, 6, 3, 2, 0, 2, 7, 2, 8, 1, 9, 2, 10, 2, 11, 0, 2, 7, 3, 2, 0, 2, 8, 1, 9, 2, 10, 2, 11, 0, 2, 8, 1, 9, 2, 0, 2, 10, 2, 11, 0, 2, 4, 3, 2, 0, 2, 2, 1, 5, 1, 6, 2, 7, 2, 8, 1, 9, 2, 10, 2, 11, 0, 2, 2, 1, 5, 1, 6, 3, 2, 0, 2, 7, 2, 8, 1, 9, 2, 10, 2, 11, 0, 2, 7, 3, 2, 0, 2, 8, 1, 9, 2, 10, 2, 11, 0, 2, 8, 1, 9, 2, 0, 2, 10, 2, 11, 0])]
def m181 : MC :=
  (.seq
 (.reg false [1, 2, 4] [oX 2 (.box (.t 0)),
 oX 4 (.alloc (.st (.cons (.int .i64 0) (.cons (.sl true 4 .nil) (.cons (.int .i64 0) (.cons (.int .i64 0) (.cons (.sl true 1 .nil) .nil))))))),
 oQ 5 (.mov (kB false))])
 (.seq
 (.any [] [1, 2, 4, 6, 7] (.q 2 (oQ 10 (.fa 1 1 (.t 2))) (.q 3 (oQ 11 (.ld none (.t 10))) (.q 4 (oQ 12 (.mov (.t 1))) (.q 5 (oQ 13 (.ia 4 (.t 11) (.t 12))) (.q 6 (oQ 14 (.ld (some 4) (.t 13))) (.br (.e 0 (oQ 8 (.ldv 5 (.t 2))) (.br (.e 1 (oX 9 (.call 121 [(.t 8)])) (.br (.e 7 (oX 6 (.alloc (.st (.cons (.int .i64 0) (.cons (.sl true 4 .nil) (.cons (.int .i64 0) (.cons (.int .i64 0) (.cons (.sl true 1 .nil) .nil)))))))) (.e 8 (oX 7 (.alloc (.st (.cons (.int .i64 0) (.cons (.int .i64 0) (.cons (.int .i64 0) (.cons (.sl true 1 .nil) .nil))))))) (.e 9 (oN (.st 5 (.t 6) (.t 9))) (.e 10 (oN (.st 4 (.t 7) (.t 14))) .done))))
 (.e 8 (oX 7 (.alloc (.st (.cons (.int .i64 0) (.cons (.int .i64 0) (.cons (.int .i64 0) (.cons (.sl true 1 .nil) .nil))))))) (.e 7 (oX 6 (.alloc (.st (.cons (.int .i64 0) (.cons (.sl true 4 .nil) (.cons (.int .i64 0) (.cons (.int .i64 0) (.cons (.sl true 1 .nil) .nil)))))))) (.e 9 (oN (.st 5 (.t 6) (.t 9))) (.e 10 (oN (.st 4 (.t 7) (.t 14))) .done))))))
 (.br (.e 7 (oX 6 (.alloc (.st (.cons (.int .i64 0) (.cons (.sl true 4 .nil) (.cons (.int .i64 0) (.cons (.int .i64 0) (.cons (.sl true 1 .nil) .nil)))))))) (.br (.e 1 (oX 9 (.call 121 [(.t 8)])) (.e 8 (oX 7 (.alloc (.st (.cons (.int .i64 0) (.cons (.int .i64 0) (.cons (.int .i64 0) (.cons (.sl true 1 .nil) .nil))))))) (.e 9 (oN (.st 5 (.t 6) (.t 9))) (.e 10 (oN (.st 4 (.t 7) (.t 14))) .done))))
 (.e 8 (oX 7 (.alloc (.st (.cons (.int .i64 0) (.cons (.int .i64 0) (.cons (.int .i64 0) (.cons (.sl true 1 .nil) .nil))))))) (.e 1 (oX 9 (.call 121 [(.t 8)])) (.e 9 (oN (.st 5 (.t 6) (.t 9))) (.e 10 (oN (.st 4 (.t 7) (.t 14))) .done))))))
 (.e 8 (oX 7 (.alloc (.st (.cons (.int .i64 0) (.cons (.int .i64 0) (.cons (.int .i64 0) (.cons (.sl true 1 .nil) .nil))))))) (.br (.e 1 (oX 9 (.call 121 [(.t 8)])) (.e 7 (oX 6 (.alloc (.st (.cons (.int .i64 0) (.cons (.sl true 4 .nil) (.cons (.int .i64 0) (.cons (.int .i64 0) (.cons (.sl true 1 .nil) .nil)))))))) (.e 9 (oN (.st 5 (.t 6) (.t 9))) (.e 10 (oN (.st 4 (.t 7) (.t 14))) .done))))
 (.e 7 (oX 6 (.alloc (.st (.cons (.int .i64 0) (.cons (.sl true 4 .nil) (.cons (.int .i64 0) (.cons (.int .i64 0) (.cons (.sl true 1 .nil) .nil)))))))) (.e 1 (oX 9 (.call 121 [(.t 8)])) (.e 9 (oN (.st 5 (.t 6) (.t 9))) (.e 10 (oN (.st 4 (.t 7) (.t 14))) .done)))))))))
 (.br (.e 7 (oX 6 (.alloc (.st (.cons (.int .i64 0) (.cons (.sl true 4 .nil) (.cons (.int .i64 0) (.cons (.int .i64 0) (.cons (.sl true 1 .nil) .nil)))))))) (.br (.e 0 (oQ 8 (.ldv 5 (.t 2))) (.br (.e 1 (oX 9 (.call 121 [(.t 8)])) (.e 8 (oX 7 (.alloc (.st (.cons (.int .i64 0) (.cons (.int .i64 0) (.cons (.int .i64 0) (.cons (.sl true 1 .nil) .nil))))))) (.e 9 (oN (.st 5 (.t 6) (.t 9))) (.e 10 (oN (.st 4 (.t 7) (.t 14))) .done))))
 (.e 8 (oX 7 (.alloc (.st (.cons (.int .i64 0) (.cons (.int .i64 0) (.cons (.int .i64 0) (.cons (.sl true 1 .nil) .nil))))))) (.e 1 (oX 9 (.call 121 [(.t 8)])) (.e 9 (oN (.st 5 (.t 6) (.t 9))) (.e 10 (oN (.st 4 (.t 7) (.t 14))) .done))))))
 (.e 8 (oX 7 (.alloc (.st (.cons (.int .i64 0) (.cons (.int .i64 0) (.cons (.int .i64 0) (.cons (.sl true 1 .nil) .nil))))))) (.e 0 (oQ 8 (.ldv 5 (.t 2))) (.e 1 (oX 9 (.call 121 [(.t 8)])) (.e 9 (oN (.st 5 (.t 6) (.t 9))) (.e 10 (oN (.st 4 (.t 7) (.t 14))) .done)))))))
 (.e 8 (oX 7 (.alloc (.st (.cons (.int .i64 0) (.cons (.int .i64 0) (.cons (.int .i64 0) (.cons (.sl true 1 .nil) .nil))))))) (.br (.e 0 (oQ 8 (.ldv 5 (.t 2))) (.br (.e 1 (oX 9 (.call 121 [(.t 8)])) (.e 7 (oX 6 (.alloc (.st (.cons (.int .i64 0) (.cons (.sl true 4 .nil) (.cons (.int .i64 0) (.cons (.int .i64 0) (.cons (.sl true 1 .nil) .nil)))))))) (.e 9 (oN (.st 5 (.t 6) (.t 9))) (.e 10 (oN (.st 4 (.t 7) (.t 14))) .done))))
 (.e 7 (oX 6 (.alloc (.st (.cons (.int .i64 0) (.cons (.sl true 4 .nil) (.cons (.int .i64 0) (.cons (.int .i64 0) (.cons (.sl true 1 .nil) .nil)))))))) (.e 1 (oX 9 (.call 121 [(.t 8)])) (.e 9 (oN (.st 5 (.t 6) (.t 9))) (.e 10 (oN (.st 4 (.t 7) (.t 14))) .done))))))
 (.e 7 (oX 6 (.alloc (.st (.cons (.int .i64 0) (.cons (.sl true 4 .nil) (.cons (.int .i64 0) (.cons (.int .i64 0) (.cons (.sl true 1 .nil) .nil)))))))) (.e 0 (oQ 8 (.ldv 5 (.t 2))) (.e 1 (oX 9 (.call 121 [(.t 8)])) (.e 9 (oN (.st 5 (.t 6) (.t 9))) (.e 10 (oN (.st 4 (.t 7) (.t 14))) .done)))))))))))))))
 (.seq
 (.any [13] [2, 4, 6, 7] (.q 1 (oQ 16 (.fa 1 1 (.t 6))) (.q 2 (oQ 17 (.ld none (.t 16))) (.q 3 (oQ 18 (.mov (.t 1))) (.q 4 (oQ 19 (.slx 4 (.t 17) none (some (.t 18)))) (.q 6 (oQ 21 (.fa 1 1 (.t 6))) (.q 7 (oQ 22 (.ld none (.t 21))) (.q 8 (oQ 23 (.mov (.t 1))) (.q 9 (oQ 24 (.bin .add (.t 23) (kI 1))) (.q 10 (oQ 25 (.slx 4 (.t 22) (some (.t 24)) none)) (.e 0 (oX 15 (.bs 4 0 (.st (.cons (.int .i64 0) (.cons (.int .i64 0) (.cons (.int .i64 0) (.cons (.sl true 1 .nil) .nil))))) [])) (.e 5 (oX 20 (.app 4 48 (.t 15) (.t 19))) (.e 11 (oX 26 (.app 4 48 (.t 20) (.t 25))) (.q 12 (oQ 27 (.fa 1 1 (.t 6))) (.e 13 (oN (.st 1 (.t 27) (.t 26))) .done)))))))))))))))
 (.seq
 (.seq
 (.reg false [2, 4, 6, 7, 29] [oQ 28 (.fa 1 1 (.t 7)),
 oQ 29 (.ld none (.t 28))])
 (.block 0
 (.seq
 (.reg false [2, 4, 6, 7, 29, 60] [oQ 61 (.bin .eql (.t 29) (kI 1)),
 oQ 60 (.mov (.t 61))])
 (.cond (.t 60)
 (.reg false [2, 4, 6, 7] [oQ 62 (.fa 2 2 (.t 2)),
 oQ 63 (.ld none (.t 62)),
 oQ 64 (.bin .add (.t 63) (kI 1)),
 oQ 65 (.fa 2 2 (.t 6)),
 oN (.st 1 (.t 65) (.t 64))])
 (.seq
 (.reg false [2, 4, 6, 7, 66] [oQ 67 (.bin .eql (.t 29) (kI 2)),
 oQ 66 (.mov (.t 67))])
 (.cond (.t 66)
 (.reg false [2, 4, 6, 7] [oQ 68 (.fa 3 3 (.t 2)),
 oQ 69 (.ld none (.t 68)),
 oQ 70 (.bin .add (.t 69) (kI 1)),
 oQ 71 (.fa 3 3 (.t 6)),
 oN (.st 1 (.t 71) (.t 70))])
 (.seq
 (.any [14] [2, 4, 6, 7] (.q 0 (oQ 30 (.fa 4 4 (.t 6))) (.q 1 (oQ 31 (.ld none (.t 30))) (.q 2 (oQ 32 (.fa 0 0 (.t 7))) (.q 3 (oQ 33 (.ld none (.t 32))) (.q 7 (oQ 37 (.fa 0 0 (.t 2))) (.q 8 (oQ 38 (.ld none (.t 37))) (.e 4 (oX 34 (.call 147 [(.t 33)])) (.q 5 (oQ 35 (.bin .add (.k (.d (.str [114]))) (.t 34))) (.q 6 (oQ 36 (.bin .add (.t 35) (.k (.d (.str [32, 100]))))) (.e 9 (oX 39 (.call 147 [(.t 38)])) (.q 10 (oQ 40 (.bin .add (.t 36) (.t 39))) (.e 11 (oX 41 (.bs 1 1 (.str []) [(0, (.t 40))])) (.e 12 (oX 42 (.app 1 16 (.t 31) (.t 41))) (.q 13 (oQ 43 (.fa 4 4 (.t 6))) (.e 14 (oN (.st 1 (.t 43) (.t 42))) .done))))))))))))))))
 (.seq
 (.any [16, 17] [4, 5] (.q 1 (oQ 45 (.fa 2 2 (.t 7))) (.q 3 (oQ 47 (.fa 0 0 (.t 2))) (.br (.e 0 (oQ 44 (.ldv 5 (.t 6))) (.br (.e 2 (oQ 46 (.ld none (.t 45))) (.e 4 (oQ 48 (.ld none (.t 47))) (.q 5 (oQ 49 (.bin .leq (.t 46) (.t 48))) (.q 6 (oQ 50 (.mov (.t 49))) (.q 7 (oG 51 50 true (.fa 3 3 (.t 7))) (.e 8 (oG 52 50 true (.ld none (.t 51))) (.q 9 (oG 53 50 true (.len false (.t 52))) (.q 10 (oG 54 50 true (.bin .eql (.t 53) (kI 0))) (.q 11 (oQ 55 (.pick (.t 50) (.t 54) (kB false))) (.q 12 (oQ 56 (.mov (.t 55))) (.e 13 (oG 57 56 true (.ldv 5 (.t 6))) (.e 14 (oH 58 56 true (.call 111 [(.t 57)])) (.q 15 (oQ 59 (.pick (.t 56) (.t 58) (kB false))) (.e 16 (oN (.st 5 (.t 4) (.t 44))) (.e 17 (oQ 5 (.mov (.t 59))) .done)))))))))))))))
 (.e 4 (oQ 48 (.ld none (.t 47))) (.e 2 (oQ 46 (.ld none (.t 45))) (.q 5 (oQ 49 (.bin .leq (.t 46) (.t 48))) (.q 6 (oQ 50 (.mov (.t 49))) (.q 7 (oG 51 50 true (.fa 3 3 (.t 7))) (.e 8 (oG 52 50 true (.ld none (.t 51))) (.q 9 (oG 53 50 true (.len false (.t 52))) (.q 10 (oG 54 50 true (.bin .eql (.t 53) (kI 0))) (.q 11 (oQ 55 (.pick (.t 50) (.t 54) (kB false))) (.q 12 (oQ 56 (.mov (.t 55))) (.e 13 (oG 57 56 true (.ldv 5 (.t 6))) (.e 14 (oH 58 56 true (.call 111 [(.t 57)])) (.q 15 (oQ 59 (.pick (.t 56) (.t 58) (kB false))) (.e 16 (oN (.st 5 (.t 4) (.t 44))) (.e 17 (oQ 5 (.mov (.t 59))) .done)))))))))))))))))
 (.br (.e 2 (oQ 46 (.ld none (.t 45))) (.br (.e 0 (oQ 44 (.ldv 5 (.t 6))) (.e 4 (oQ 48 (.ld none (.t 47))) (.q 5 (oQ 49 (.bin .leq (.t 46) (.t 48))) (.q 6 (oQ 50 (.mov (.t 49))) (.q 7 (oG 51 50 true (.fa 3 3 (.t 7))) (.e 8 (oG 52 50 true (.ld none (.t 51))) (.q 9 (oG 53 50 true (.len false (.t 52))) (.q 10 (oG 54 50 true (.bin .eql (.t 53) (kI 0))) (.q 11 (oQ 55 (.pick (.t 50) (.t 54) (kB false))) (.q 12 (oQ 56 (.mov (.t 55))) (.e 13 (oG 57 56 true (.ldv 5 (.t 6))) (.e 14 (oH 58 56 true (.call 111 [(.t 57)])) (.q 15 (oQ 59 (.pick (.t 56) (.t 58) (kB false))) (.e 16 (oN (.st 5 (.t 4) (.t 44))) (.e 17 (oQ 5 (.mov (.t 59))) .done)))))))))))))))
 (.e 4 (oQ 48 (.ld none (.t 47))) (.q 5 (oQ 49 (.bin .leq (.t 46) (.t 48))) (.q 6 (oQ 50 (.mov (.t 49))) (.q 7 (oG 51 50 true (.fa 3 3 (.t 7))) (.br (.e 0 (oQ 44 (.ldv 5 (.t 6))) (.e 8 (oG 52 50 true (.ld none (.t 51))) (.q 9 (oG 53 50 true (.len false (.t 52))) (.q 10 (oG 54 50 true (.bin .eql (.t 53) (kI 0))) (.q 11 (oQ 55 (.pick (.t 50) (.t 54) (kB false))) (.q 12 (oQ 56 (.mov (.t 55))) (.e 13 (oG 57 56 true (.ldv 5 (.t 6))) (.e 14 (oH 58 56 true (.call 111 [(.t 57)])) (.q 15 (oQ 59 (.pick (.t 56) (.t 58) (kB false))) (.e 16 (oN (.st 5 (.t 4) (.t 44))) (.e 17 (oQ 5 (.mov (.t 59))) .done)))))))))))
 (.e 8 (oG 52 50 true (.ld none (.t 51))) (.q 9 (oG 53 50 true (.len false (.t 52))) (.q 10 (oG 54 50 true (.bin .eql (.t 53) (kI 0))) (.q 11 (oQ 55 (.pick (.t 50) (.t 54) (kB false))) (.q 12 (oQ 56 (.mov (.t 55))) (.br (.e 0 (oQ 44 (.ldv 5 (.t 6))) (.e 13 (oG 57 56 true (.ldv 5 (.t 6))) (.e 14 (oH 58 56 true (.call 111 [(.t 57)])) (.q 15 (oQ 59 (.pick (.t 56) (.t 58) (kB false))) (.e 16 (oN (.st 5 (.t 4) (.t 44))) (.e 17 (oQ 5 (.mov (.t 59))) .done))))))
 (.e 13 (oG 57 56 true (.ldv 5 (.t 6))) (.br (.e 0 (oQ 44 (.ldv 5 (.t 6))) (.e 14 (oH 58 56 true (.call 111 [(.t 57)])) (.q 15 (oQ 59 (.pick (.t 56) (.t 58) (kB false))) (.e 16 (oN (.st 5 (.t 4) (.t 44))) (.e 17 (oQ 5 (.mov (.t 59))) .done)))))
 (.e 14 (oH 58 56 true (.call 111 [(.t 57)])) (.q 15 (oQ 59 (.pick (.t 56) (.t 58) (kB false))) (.e 0 (oQ 44 (.ldv 5 (.t 6))) (.e 16 (oN (.st 5 (.t 4) (.t 44))) (.e 17 (oQ 5 (.mov (.t 59))) .done))))))))))))))))))))
 (.e 4 (oQ 48 (.ld none (.t 47))) (.br (.e 0 (oQ 44 (.ldv 5 (.t 6))) (.e 2 (oQ 46 (.ld none (.t 45))) (.q 5 (oQ 49 (.bin .leq (.t 46) (.t 48))) (.q 6 (oQ 50 (.mov (.t 49))) (.q 7 (oG 51 50 true (.fa 3 3 (.t 7))) (.e 8 (oG 52 50 true (.ld none (.t 51))) (.q 9 (oG 53 50 true (.len false (.t 52))) (.q 10 (oG 54 50 true (.bin .eql (.t 53) (kI 0))) (.q 11 (oQ 55 (.pick (.t 50) (.t 54) (kB false))) (.q 12 (oQ 56 (.mov (.t 55))) (.e 13 (oG 57 56 true (.ldv 5 (.t 6))) (.e 14 (oH 58 56 true (.call 111 [(.t 57)])) (.q 15 (oQ 59 (.pick (.t 56) (.t 58) (kB false))) (.e 16 (oN (.st 5 (.t 4) (.t 44))) (.e 17 (oQ 5 (.mov (.t 59))) .done)))))))))))))))
 (.e 2 (oQ 46 (.ld none (.t 45))) (.q 5 (oQ 49 (.bin .leq (.t 46) (.t 48))) (.q 6 (oQ 50 (.mov (.t 49))) (.q 7 (oG 51 50 true (.fa 3 3 (.t 7))) (.br (.e 0 (oQ 44 (.ldv 5 (.t 6))) (.e 8 (oG 52 50 true (.ld none (.t 51))) (.q 9 (oG 53 50 true (.len false (.t 52))) (.q 10 (oG 54 50 true (.bin .eql (.t 53) (kI 0))) (.q 11 (oQ 55 (.pick (.t 50) (.t 54) (kB false))) (.q 12 (oQ 56 (.mov (.t 55))) (.e 13 (oG 57 56 true (.ldv 5 (.t 6))) (.e 14 (oH 58 56 true (.call 111 [(.t 57)])) (.q 15 (oQ 59 (.pick (.t 56) (.t 58) (kB false))) (.e 16 (oN (.st 5 (.t 4) (.t 44))) (.e 17 (oQ 5 (.mov (.t 59))) .done)))))))))))
 (.e 8 (oG 52 50 true (.ld none (.t 51))) (.q 9 (oG 53 50 true (.len false (.t 52))) (.q 10 (oG 54 50 true (.bin .eql (.t 53) (kI 0))) (.q 11 (oQ 55 (.pick (.t 50) (.t 54) (kB false))) (.q 12 (oQ 56 (.mov (.t 55))) (.br (.e 0 (oQ 44 (.ldv 5 (.t 6))) (.e 13 (oG 57 56 true (.ldv 5 (.t 6))) (.e 14 (oH 58 56 true (.call 111 [(.t 57)])) (.q 15 (oQ 59 (.pick (.t 56) (.t 58) (kB false))) (.e 16 (oN (.st 5 (.t 4) (.t 44))) (.e 17 (oQ 5 (.mov (.t 59))) .done))))))
 (.e 13 (oG 57 56 true (.ldv 5 (.t 6))) (.br (.e 0 (oQ 44 (.ldv 5 (.t 6))) (.e 14 (oH 58 56 true (.call 111 [(.t 57)])) (.q 15 (oQ 59 (.pick (.t 56) (.t 58) (kB false))) (.e 16 (oN (.st 5 (.t 4) (.t 44))) (.e 17 (oQ 5 (.mov (.t 59))) .done)))))
 (.e 14 (oH 58 56 true (.call 111 [(.t 57)])) (.q 15 (oQ 59 (.pick (.t 56) (.t 58) (kB false))) (.e 0 (oQ 44 (.ldv 5 (.t 6))) (.e 16 (oN (.st 5 (.t 4) (.t 44))) (.e 17 (oQ 5 (.mov (.t 59))) .done)))))))))))))))))))))))))
 .ret))))))))
 (.seq
 (.any [10, 11] [4, 5] (.q 1 (oQ 73 (.fa 2 2 (.t 7))) (.q 3 (oQ 75 (.fa 0 0 (.t 2))) (.br (.e 0 (oQ 72 (.ldv 5 (.t 6))) (.br (.e 2 (oQ 74 (.ld none (.t 73))) (.e 4 (oQ 76 (.ld none (.t 75))) (.q 5 (oQ 77 (.bin .leq (.t 74) (.t 76))) (.q 6 (oQ 78 (.mov (.t 77))) (.e 7 (oG 79 78 true (.ldv 5 (.t 6))) (.e 8 (oH 80 78 true (.call 111 [(.t 79)])) (.q 9 (oQ 81 (.pick (.t 78) (.t 80) (kB false))) (.e 10 (oN (.st 5 (.t 4) (.t 72))) (.e 11 (oQ 5 (.mov (.t 81))) .done)))))))))
 (.e 4 (oQ 76 (.ld none (.t 75))) (.e 2 (oQ 74 (.ld none (.t 73))) (.q 5 (oQ 77 (.bin .leq (.t 74) (.t 76))) (.q 6 (oQ 78 (.mov (.t 77))) (.e 7 (oG 79 78 true (.ldv 5 (.t 6))) (.e 8 (oH 80 78 true (.call 111 [(.t 79)])) (.q 9 (oQ 81 (.pick (.t 78) (.t 80) (kB false))) (.e 10 (oN (.st 5 (.t 4) (.t 72))) (.e 11 (oQ 5 (.mov (.t 81))) .done)))))))))))
 (.br (.e 2 (oQ 74 (.ld none (.t 73))) (.br (.e 0 (oQ 72 (.ldv 5 (.t 6))) (.e 4 (oQ 76 (.ld none (.t 75))) (.q 5 (oQ 77 (.bin .leq (.t 74) (.t 76))) (.q 6 (oQ 78 (.mov (.t 77))) (.e 7 (oG 79 78 true (.ldv 5 (.t 6))) (.e 8 (oH 80 78 true (.call 111 [(.t 79)])) (.q 9 (oQ 81 (.pick (.t 78) (.t 80) (kB false))) (.e 10 (oN (.st 5 (.t 4) (.t 72))) (.e 11 (oQ 5 (.mov (.t 81))) .done)))))))))
 (.e 4 (oQ 76 (.ld none (.t 75))) (.q 5 (oQ 77 (.bin .leq (.t 74) (.t 76))) (.q 6 (oQ 78 (.mov (.t 77))) (.br (.e 0 (oQ 72 (.ldv 5 (.t 6))) (.e 7 (oG 79 78 true (.ldv 5 (.t 6))) (.e 8 (oH 80 78 true (.call 111 [(.t 79)])) (.q 9 (oQ 81 (.pick (.t 78) (.t 80) (kB false))) (.e 10 (oN (.st 5 (.t 4) (.t 72))) (.e 11 (oQ 5 (.mov (.t 81))) .done))))))
 (.e 7 (oG 79 78 true (.ldv 5 (.t 6))) (.br (.e 0 (oQ 72 (.ldv 5 (.t 6))) (.e 8 (oH 80 78 true (.call 111 [(.t 79)])) (.q 9 (oQ 81 (.pick (.t 78) (.t 80) (kB false))) (.e 10 (oN (.st 5 (.t 4) (.t 72))) (.e 11 (oQ 5 (.mov (.t 81))) .done)))))
 (.e 8 (oH 80 78 true (.call 111 [(.t 79)])) (.q 9 (oQ 81 (.pick (.t 78) (.t 80) (kB false))) (.e 0 (oQ 72 (.ldv 5 (.t 6))) (.e 10 (oN (.st 5 (.t 4) (.t 72))) (.e 11 (oQ 5 (.mov (.t 81))) .done)))))))))))))
 (.e 4 (oQ 76 (.ld none (.t 75))) (.br (.e 0 (oQ 72 (.ldv 5 (.t 6))) (.e 2 (oQ 74 (.ld none (.t 73))) (.q 5 (oQ 77 (.bin .leq (.t 74) (.t 76))) (.q 6 (oQ 78 (.mov (.t 77))) (.e 7 (oG 79 78 true (.ldv 5 (.t 6))) (.e 8 (oH 80 78 true (.call 111 [(.t 79)])) (.q 9 (oQ 81 (.pick (.t 78) (.t 80) (kB false))) (.e 10 (oN (.st 5 (.t 4) (.t 72))) (.e 11 (oQ 5 (.mov (.t 81))) .done)))))))))
 (.e 2 (oQ 74 (.ld none (.t 73))) (.q 5 (oQ 77 (.bin .leq (.t 74) (.t 76))) (.q 6 (oQ 78 (.mov (.t 77))) (.br (.e 0 (oQ 72 (.ldv 5 (.t 6))) (.e 7 (oG 79 78 true (.ldv 5 (.t 6))) (.e 8 (oH 80 78 true (.call 111 [(.t 79)])) (.q 9 (oQ 81 (.pick (.t 78) (.t 80) (kB false))) (.e 10 (oN (.st 5 (.t 4) (.t 72))) (.e 11 (oQ 5 (.mov (.t 81))) .done))))))
 (.e 7 (oG 79 78 true (.ldv 5 (.t 6))) (.br (.e 0 (oQ 72 (.ldv 5 (.t 6))) (.e 8 (oH 80 78 true (.call 111 [(.t 79)])) (.q 9 (oQ 81 (.pick (.t 78) (.t 80) (kB false))) (.e 10 (oN (.st 5 (.t 4) (.t 72))) (.e 11 (oQ 5 (.mov (.t 81))) .done)))))
 (.e 8 (oH 80 78 true (.call 111 [(.t 79)])) (.q 9 (oQ 81 (.pick (.t 78) (.t 80) (kB false))) (.e 0 (oQ 72 (.ldv 5 (.t 6))) (.e 10 (oN (.st 5 (.t 4) (.t 72))) (.e 11 (oQ 5 (.mov (.t 81))) .done))))))))))))))))))
 .ret)))))
theorem c181 : (Go.Proofs.Tryz.f181).body.bind (comp prog.P (2, (Go.Proofs.Tryz.f181).ntmps) lv181) = some m181 := by kernel_rfl
theorem r181 : resOK prog.P (Go.Proofs.Tryz.f181).results.toList = true := by kernel_rfl
def lv182 : List (Nat × List Nat) := [(0, [0, 1]), (1, [4])]
def m182 : MC :=
  (.seq
 (.reg false [0, 1] [oQ 4 (.mov (kB false))])
 (.seq
 (.reg false [4] [oQ 5 (.mov (.t 0)),
 oQ 6 (.mov (.t 1)),
 oX 7 (.call 225 [(.t 5), (.t 6)]),
 oQ 8 (.bin .geq (.t 7) (kI 0)),
 oQ 4 (.mov (.t 8))])
 .ret))
theorem c182 : (Go.Proofs.Tryz.f182).body.bind (comp prog.P (2, (Go.Proofs.Tryz.f182).ntmps) lv182) = some m182 := by kernel_rfl
theorem r182 : resOK prog.P (Go.Proofs.Tryz.f182).results.toList = true := by kernel_rfl
def lv183 : List (Nat × List Nat) := [(0, [0]), (1, [2])]
def m183 : MC :=
  (.seq
 (.reg false [0] [oQ 2 (.mov (kB false))])
 (.seq
 (.reg false [2] [oQ 3 (.mov (.t 0)),
 oX 4 (.call 184 [(.t 3)]),
 oQ 5 (.un .not (.t 4)),
 oQ 2 (.mov (.t 5))])
 .ret))
theorem c183 : (Go.Proofs.Tryz.f183).body.bind (comp prog.P (1, (Go.Proofs.Tryz.f183).ntmps) lv183) = some m183 := by kernel_rfl
theorem r183 : resOK prog.P (Go.Proofs.Tryz.f183).results.toList = true := by kernel_rfl
theorem en183 : enterOK prog.P 183 = true := by kernel_rfl
def lv184 : List (Nat × List Nat) := [(0, [0]), (1, [2])]
def m184 : MC :=
  (.seq
 (.reg false [0] [oQ 2 (.mov (kB false))])
 (.seq
 (.reg false [2] [oQ 3 (.mov (.t 0)),
 oQ 4 (.len true (.t 3)),
 oX 5 (.call 105 [(.t 4), (kI 1), (kI 40)]),
 oQ 6 (.mov (.t 5)),
 oG 7 6 true (.mov (.t 0)),
 oH 8 6 true (.call 226 [(.t 7), (.k (.d (.str [97, 98, 99, 100, 101, 102, 103, 104, 105, 106, 107, 108, 109, 110, 111, 112, 113, 114, 115, 116, 117, 118, 119, 120, 121, 122, 48, 49, 50, 51, 52, 53, 54, 55, 56, 57, 32, 45])))]),
 oG 9 6 true (.bin .eql (.t 8) (.k (.d (.str [])))),
 oQ 10 (.pick (.t 6) (.t 9) (kB false)),
 oQ 2 (.mov (.t 10))])
 .ret))
theorem c184 : (Go.Proofs.Tryz.f184).body.bind (comp prog.P (1, (Go.Proofs.Tryz.f184).ntmps) lv184) = some m184 := by kernel_rfl
theorem r184 : resOK prog.P (Go.Proofs.Tryz.f184).results.toList = true := by kernel_rfl
def lv185 : List (Nat × List Nat) := [(0, [0]), (1, [2])]
def m185 : MC :=
  (.seq
 (.reg false [0] [oQ 2 (.mov (kB false))])
 (.seq
 (.reg false [2] [oQ 3 (.mov (.t 0)),
 oX 4 (.call 105 [(.t 3), (kI 1), (kI 999)]),
 oQ 2 (.mov (.t 4))])
 .ret))
theorem c185 : (Go.Proofs.Tryz.f185).body.bind (comp prog.P (1, (Go.Proofs.Tryz.f185).ntmps) lv185) = some m185 := by kernel_rfl
theorem r185 : resOK prog.P (Go.Proofs.Tryz.f185).results.toList = true := by kernel_rfl
def lv186 : List (Nat × List Nat) := [(0, [0]), (1, [2])]
def m186 : MC :=
  (.seq
 (.reg false [0] [oQ 2 (.mov (kB false))])
 (.seq
 (.reg false [2] [oQ 3 (.mov (.t 0)),
 oX 4 (.call 105 [(.t 3), (kI 1), (kI 3)]),
 oQ 2 (.mov (.t 4))])
 .ret))
theorem c186 : (Go.Proofs.Tryz.f186).body.bind (comp prog.P (1, (Go.Proofs.Tryz.f186).ntmps) lv186) = some m186 := by kernel_rfl
theorem r186 : resOK prog.P (Go.Proofs.Tryz.f186).results.toList = true := by kernel_rfl
def lv187 : List (Nat × List Nat) := [(0, [0]), (1, [0, 3]), (2, [0, 3, 7]), (3, [0, 3]), (4, [0, 3, 19]), (5, [2]), (6, [2])]
def m187 : MC :=
  (.seq
 (.reg false [0] [oQ 2 (.mov (kB false))])
 (.seq
 (.seq
 (.reg false [0, 3] [oQ 3 (.mov (kI 1))])
 (.block 0
 (.loop
 (.seq
 (.seq
 (.reg false [0, 3, 7] [oQ 4 (.mov (.t 3)),
 oQ 5 (.mov (.t 0)),
 oQ 6 (.len false (.t 5)),
 oQ 7 (.bin .lss (.t 4) (.t 6))])
 (.cond (.t 7)
 .skip
 (.exit 0)))
 (.seq
 (.block 1
 (.seq
 (.reg true [0, 3, 19] [oQ 10 (.mov (.t 0)),
 oQ 11 (.mov (.t 3)),
 oQ 12 (.bin .sub (.t 11) (kI 1)),
 oQ 13 (.ia 1 (.t 10) (.t 12)),
 oQ 14 (.ld none (.t 13)),
 oQ 15 (.mov (.t 0)),
 oQ 16 (.mov (.t 3)),
 oQ 17 (.ia 1 (.t 15) (.t 16)),
 oQ 18 (.ld none (.t 17)),
 oQ 19 (.bin .geq (.t 14) (.t 18))])
 (.cond (.t 19)
 (.seq
 (.reg false [2] [oQ 2 (.mov (kB false))])
 .ret)
 .skip)))
 (.reg false [0, 3] [oQ 8 (.mov (.t 3)),
 oQ 9 (.bin .add (.t 8) (kI 1)),
 oQ 3 (.mov (.t 9))]))))))
 (.seq
 (.reg false [2] [oQ 2 (.mov (kB true))])
 .ret)))
theorem c187 : (Go.Proofs.Tryz.f187).body.bind (comp prog.P (1, (Go.Proofs.Tryz.f187).ntmps) lv187) = some m187 := by kernel_rfl
theorem r187 : resOK prog.P (Go.Proofs.Tryz.f187).results.toList = true := by kernel_rfl
def lv188 : List (Nat × List Nat) := [(0, [0, 1]), (1, [4])]
def m188 : MC :=
  (.seq
 (.reg false [0, 1] [oQ 4 (.mov (kB false))])
 (.seq
 (.reg false [4] [oQ 5 (.mov (.t 0)),
 oQ 6 (.mov (.t 1)),
 oX 7 (.call 227 [(.t 5), (.t 6)]),
 oQ 8 (.bin .geq (.t 7) (kI 0)),
 oQ 4 (.mov (.t 8))])
 .ret))
theorem c188 : (Go.Proofs.Tryz.f188).body.bind (comp prog.P (2, (Go.Proofs.Tryz.f188).ntmps) lv188) = some m188 := by kernel_rfl
theorem r188 : resOK prog.P (Go.Proofs.Tryz.f188).results.toList = true := by kernel_rfl
def lv189 : List (Nat × List Nat) := [(0, [0]), (1, [2])]
def m189 : MC :=
  (.seq
 (.reg false [0] [oQ 2 (.mov (kB false))])
 (.seq
 (.reg false [2] [oQ 3 (.mov (.t 0)),
 oX 4 (.call 133 [(.t 3)]),
 oQ 5 (.un .not (.t 4)),
 oQ 2 (.mov (.t 5))])
 .ret))
theorem c189 : (Go.Proofs.Tryz.f189).body.bind (comp prog.P (1, (Go.Proofs.Tryz.f189).ntmps) lv189) = some m189 := by kernel_rfl
theorem r189 : resOK prog.P (Go.Proofs.Tryz.f189).results.toList = true := by kernel_rfl
theorem en189 : enterOK prog.P 189 = true := by kernel_rfl
def lv190 : List (Nat × List Nat) := [(0, [0]), (1, [2])]
def m190 : MC :=
  (.seq
 (.reg false [0] [oQ 2 (.mov (.k .nil))])
 (.seq
 (.reg false [2] [oX 3 (.bs 1 0 (.int .i64 0) []),
 oQ 4 (.mov (.t 0)),
 oX 5 (.app 1 8 (.t 3) (.t 4)),
 oQ 2 (.mov (.t 5))])
 .ret))
theorem c190 : (Go.Proofs.Tryz.f190).body.bind (comp prog.P (1, (Go.Proofs.Tryz.f190).ntmps) lv190) = some m190 := by kernel_rfl
theorem r190 : resOK prog.P (Go.Proofs.Tryz.f190).results.toList = true := by kernel_rfl
def lv191 : List (Nat × List Nat) := [(0, [1, 2]), (1, [1]), (2, [1, 10]), (3, [4]), (4, [4])]
def m191 : MC :=
  (.seq
 (.reg false [1, 2] [oX 2 (.box (.t 0)),
 oQ 4 (.mov (kI 0))])
 (.seq
 (.reg false [1] [oQ 5 (.fa 3 3 (.t 2)),
 oQ 6 (.ld none (.t 5)),
 oQ 7 (.mov (.t 1)),
 oX 8 (.call 228 [(.t 6), (.t 7)]),
 oQ 1 (.mov (.t 8))])
 (.seq
 (.seq
 (.reg false [1, 10] [oQ 9 (.mov (.t 1)),
 oQ 10 (.bin .lss (.t 9) (kI 0))])
 (.cond (.t 10)
 (.seq
 (.reg false [4] [oQ 4 (.mov (.k (.d (.int .i64 (-1)))))])
 .ret)
 .skip))
 (.seq
 (.reg false [4] [oQ 11 (.mov (.t 1)),
 oQ 4 (.mov (.t 11))])
 .ret))))
theorem c191 : (Go.Proofs.Tryz.f191).body.bind (comp prog.P (1, (Go.Proofs.Tryz.f191).ntmps) lv191) = some m191 := by kernel_rfl
theorem r191 : resOK prog.P (Go.Proofs.Tryz.f191).results.toList = true := by kernel_rfl
def lv192 : List (Nat × List Nat) := [(0, [1, 2]), (1, [1, 2, 3]), (2, [1, 2, 3]), (3, [1, 2, 3]), (4, [1, 2, 3]), (5, [2, 3]), (6, [2])]
def m192 : MC :=
  (.seq
 (.reg false [1, 2] [oX 1 (.box (.t 0)),
 oX 2 (.alloc (.st (.cons (.int .i64 0) (.cons (.int .i64 0) (.cons (.int .i64 0) (.cons (.sl true 1 .nil) .nil))))))])
 (.seq
 (.reg false [1, 2, 3] [oX 3 (.alloc (.st (.cons (.int .i64 0) (.cons (.int .i64 0) (.cons (.int .i64 0) (.cons (.sl true 1 .nil) .nil))))))])
 (.seq
 (.reg false [1, 2, 3] [oQ 4 (.fa 0 0 (.t 1)),
 oQ 5 (.ld none (.t 4)),
 oQ 6 (.fa 0 0 (.t 3)),
 oN (.st 1 (.t 6) (.t 5))])
 (.seq
 (.reg false [1, 2, 3] [oQ 7 (.fa 1 1 (.t 1)),
 oQ 8 (.ld none (.t 7)),
 oQ 9 (.fa 1 1 (.t 3)),
 oN (.st 1 (.t 9) (.t 8))])
 (.seq
 (.reg false [1, 2, 3] [oQ 10 (.fa 2 2 (.t 1)),
 oQ 11 (.ld none (.t 10)),
 oQ 12 (.fa 2 2 (.t 3)),
 oN (.st 1 (.t 12) (.t 11))])
 (.seq
 (.reg false [2, 3] [oQ 13 (.fa 3 3 (.t 1)),
 oQ 14 (.ld none (.t 13)),
 oX 15 (.call 229 [(.t 14)]),
 oQ 16 (.fa 3 3 (.t 3)),
 oN (.st 1 (.t 16) (.t 15))])
 (.seq
 (.reg false [2] [oQ 17 (.ld (some 4) (.t 3)),
 oN (.st 4 (.t 2) (.t 17))])
 .ret)))))))
theorem c192 : (Go.Proofs.Tryz.f192).body.bind (comp prog.P (1, (Go.Proofs.Tryz.f192).ntmps) lv192) = some m192 := by kernel_rfl
theorem r192 : resOK prog.P (Go.Proofs.Tryz.f192).results.toList = true := by kernel_rfl
def lv193 : List (Nat × List Nat) := [(0, [2, 3]), (1, [2, 3, 9]), (2, [4]), (3, [2, 3, 14]), (4, [4]), (5, [2, 3, 19]), (6, [4]), (7, [25]), (8, [4]), (9, [4])]
def m193 : MC :=
  (.seq
 (.reg false [2, 3] [oX 2 (.box (.t 0)),
 oX 3 (.box (.t 1)),
 oQ 4 (.mov (kB false))])
 (.seq
 (.seq
 (.reg false [2, 3, 9] [oQ 5 (.fa 0 0 (.t 2)),
 oQ 6 (.ld none (.t 5)),
 oQ 7 (.fa 0 0 (.t 3)),
 oQ 8 (.ld none (.t 7)),
 oQ 9 (.bin .neq (.t 6) (.t 8))])
 (.cond (.t 9)
 (.seq
 (.reg false [4] [oQ 4 (.mov (kB false))])
 .ret)
 .skip))
 (.seq
 (.seq
 (.reg false [2, 3, 14] [oQ 10 (.fa 1 1 (.t 2)),
 oQ 11 (.ld none (.t 10)),
 oQ 12 (.fa 1 1 (.t 3)),
 oQ 13 (.ld none (.t 12)),
 oQ 14 (.bin .neq (.t 11) (.t 13))])
 (.cond (.t 14)
 (.seq
 (.reg false [4] [oQ 4 (.mov (kB false))])
 .ret)
 .skip))
 (.seq
 (.seq
 (.reg false [2, 3, 19] [oQ 15 (.fa 2 2 (.t 2)),
 oQ 16 (.ld none (.t 15)),
 oQ 17 (.fa 2 2 (.t 3)),
 oQ 18 (.ld none (.t 17)),
 oQ 19 (.bin .neq (.t 16) (.t 18))])
 (.cond (.t 19)
 (.seq
 (.reg false [4] [oQ 4 (.mov (kB false))])
 .ret)
 .skip))
 (.seq
 (.seq
 (.reg false [25] [oQ 20 (.fa 3 3 (.t 2)),
 oQ 21 (.ld none (.t 20)),
 oQ 22 (.fa 3 3 (.t 3)),
 oQ 23 (.ld none (.t 22)),
 oX 24 (.call 230 [(.t 21), (.t 23)]),
 oQ 25 (.un .not (.t 24))])
 (.cond (.t 25)
 (.seq
 (.reg false [4] [oQ 4 (.mov (kB false))])
 .ret)
 .skip))
 (.seq
 (.reg false [4] [oQ 4 (.mov (kB true))])
 .ret))))))
theorem c193 : (Go.Proofs.Tryz.f193).body.bind (comp prog.P (2, (Go.Proofs.Tryz.f193).ntmps) lv193) = some m193 := by kernel_rfl
theorem r193 : resOK prog.P (Go.Proofs.Tryz.f193).results.toList = true := by kernel_rfl
def lv194 : List (Nat × List Nat) := [(0, [0, 1]), (1, [0, 1, 5]), (2, [0, 1, 5, 9]), (3, [0, 1, 5]), (4, [0, 1, 5]), (5, [0, 1, 5]), (6, [0, 4])]
def m194 : MC :=
  (.seq
 (.reg false [0, 1] [oQ 4 (.mov (kI 0))])
 (.seq
 (.seq
 (.reg false [0, 1, 5] [oQ 5 (.mov (kI 0))])
 (.block 0
 (.loop
 (.seq
 (.seq
 (.reg false [0, 1, 5, 9] [oQ 6 (.mov (.t 5)),
 oQ 7 (.mov (.t 0)),
 oQ 8 (.len false (.t 7)),
 oQ 9 (.bin .lss (.t 6) (.t 8))])
 (.cond (.t 9)
 .skip
 (.exit 0)))
 (.seq
 (.block 1
 (.seq
 (.reg false [0, 1, 5] [oQ 12 (.mov (.t 0)),
 oQ 13 (.mov (.t 5)),
 oQ 14 (.mov (.t 1)),
 oQ 15 (.ia 1 (.t 12) (.t 13)),
 oN (.st 1 (.t 15) (.t 14))])
 (.reg false [0, 1, 5] [oQ 16 (.mov (.t 1)),
 oQ 17 (.bin .add (.t 16) (kI 1)),
 oQ 1 (.mov (.t 17))])))
 (.reg false [0, 1, 5] [oQ 10 (.mov (.t 5)),
 oQ 11 (.bin .add (.t 10) (kI 1)),
 oQ 5 (.mov (.t 11))]))))))
 (.seq
 (.reg false [0, 4] [oQ 18 (.mov (.t 1)),
 oQ 4 (.mov (.t 18))])
 .ret)))
theorem c194 : (Go.Proofs.Tryz.f194).body.bind (comp prog.P (1, (Go.Proofs.Tryz.f194).ntmps) lv194) = some m194 := by kernel_rfl
theorem r194 : resOK prog.P (Go.Proofs.Tryz.f194).results.toList = true := by kernel_rfl
def lv195 : List (Nat × List Nat) := [(0, [0, 1]), (1, [0, 1, 5]), (2, [0, 1, 5, 9]), (3, [0, 1, 5]), (4, [0, 1, 5, 17]), (5, [4]), (6, [0, 1, 5]), (7, [4])]
def m195 : MC :=
  (.seq
 (.reg false [0, 1] [oQ 4 (.mov (kI 0))])
 (.seq
 (.seq
 (.reg false [0, 1, 5] [oQ 5 (.mov (kI 0))])
 (.block 0
 (.loop
 (.seq
 (.seq
 (.reg false [0, 1, 5, 9] [oQ 6 (.mov (.t 5)),
 oQ 7 (.mov (.t 0)),
 oQ 8 (.len false (.t 7)),
 oQ 9 (.bin .lss (.t 6) (.t 8))])
 (.cond (.t 9)
 .skip
 (.exit 0)))
 (.seq
 (.block 1
 (.seq
 (.seq
 (.reg false [0, 1, 5, 17] [oQ 12 (.mov (.t 0)),
 oQ 13 (.mov (.t 5)),
 oQ 14 (.ia 1 (.t 12) (.t 13)),
 oQ 15 (.ld none (.t 14)),
 oQ 16 (.mov (.t 1)),
 oQ 17 (.bin .neq (.t 15) (.t 16))])
 (.cond (.t 17)
 (.seq
 (.reg false [4] [oQ 4 (.mov (.k (.d (.int .i64 (-1)))))])
 .ret)
 .skip))
 (.reg false [0, 1, 5] [oQ 18 (.mov (.t 1)),
 oQ 19 (.bin .add (.t 18) (kI 1)),
 oQ 1 (.mov (.t 19))])))
 (.reg false [0, 1, 5] [oQ 10 (.mov (.t 5)),
 oQ 11 (.bin .add (.t 10) (kI 1)),
 oQ 5 (.mov (.t 11))]))))))
 (.seq
 (.reg false [4] [oQ 20 (.mov (.t 1)),
 oQ 4 (.mov (.t 20))])
 .ret)))
theorem c195 : (Go.Proofs.Tryz.f195).body.bind (comp prog.P (1, (Go.Proofs.Tryz.f195).ntmps) lv195) = some m195 := by kernel_rfl
theorem r195 : resOK prog.P (Go.Proofs.Tryz.f195).results.toList = true := by kernel_rfl
def lv196 : List (Nat × List Nat) := [(0, [0, 1]), (1, [0, 1, 7, 8]), (2, [0, 1, 7, 8, 9]), (3, [0, 1, 5, 7, 8]), (4, [0, 1, 5, 7, 8, 16]), (5, [4]), (6, [0, 1, 7, 8]), (7, [4])]
def m196 : MC :=
  (.seq
 (.reg false [0, 1] [oQ 4 (.mov (kI 0))])
 (.seq
 (.seq
 (.reg false [0, 1, 7, 8] [oQ 6 (.mov (.t 0)),
 oQ 7 (.len false (.t 6)),
 oQ 8 (.mov (kI 0))])
 (.block 0
 (.loop
 (.seq
 (.reg false [0, 1, 7, 8, 9] [oQ 9 (.bin .lss (.t 8) (.t 7))])
 (.seq
 (.cond (.t 9)
 .skip
 (.exit 0))
 (.seq
 (.block 1
 (.seq
 (.reg false [0, 1, 5, 7, 8] [oQ 10 (.mov (.t 8)),
 oQ 5 (.mov (.t 10))])
 (.seq
 (.reg false [0, 1, 5, 7, 8, 16] [oQ 11 (.mov (.t 1)),
 oQ 12 (.mov (.t 0)),
 oQ 13 (.mov (.t 5)),
 oQ 14 (.ia 1 (.t 12) (.t 13)),
 oQ 15 (.ld none (.t 14)),
 oQ 16 (.bin .eql (.t 11) (.t 15))])
 (.cond (.t 16)
 (.seq
 (.reg false [4] [oQ 17 (.mov (.t 5)),
 oQ 4 (.mov (.t 17))])
 .ret)
 .skip))))
 (.reg false [0, 1, 7, 8] [oQ 18 (.bin .add (.t 8) (kI 1)),
 oQ 8 (.mov (.t 18))])))))))
 (.seq
 (.reg false [4] [oQ 4 (.mov (.k (.d (.int .i64 (-1)))))])
 .ret)))
theorem c196 : (Go.Proofs.Tryz.f196).body.bind (comp prog.P (2, (Go.Proofs.Tryz.f196).ntmps) lv196) = some m196 := by kernel_rfl
theorem r196 : resOK prog.P (Go.Proofs.Tryz.f196).results.toList = true := by kernel_rfl
def lv201 : List (Nat × List Nat) := [(0, [0, 1]), (1, [0, 1, 7, 8]), (2, [0, 1, 7, 8, 9]), (3, [0, 1, 5, 7, 8]), (4, [0, 1, 5, 7, 8, 16]), (5, [4]), (6, [0, 1, 7, 8]), (7, [4])]
def m201 : MC :=
  (.seq
 (.reg false [0, 1] [oQ 4 (.mov (kI 0))])
 (.seq
 (.seq
 (.reg false [0, 1, 7, 8] [oQ 6 (.mov (.t 0)),
 oQ 7 (.len false (.t 6)),
 oQ 8 (.mov (kI 0))])
 (.block 0
 (.loop
 (.seq
 (.reg false [0, 1, 7, 8, 9] [oQ 9 (.bin .lss (.t 8) (.t 7))])
 (.seq
 (.cond (.t 9)
 .skip
 (.exit 0))
 (.seq
 (.block 1
 (.seq
 (.reg false [0, 1, 5, 7, 8] [oQ 10 (.mov (.t 8)),
 oQ 5 (.mov (.t 10))])
 (.seq
 (.reg false [0, 1, 5, 7, 8, 16] [oQ 11 (.mov (.t 1)),
 oQ 12 (.mov (.t 0)),
 oQ 13 (.mov (.t 5)),
 oQ 14 (.ia 4 (.t 12) (.t 13)),
 oQ 15 (.ld (some 4) (.t 14)),
 oX 16 (.callW (.t 11) [(.t 15)])])
 (.cond (.t 16)
 (.seq
 (.reg false [4] [oQ 17 (.mov (.t 5)),
 oQ 4 (.mov (.t 17))])
 .ret)
 .skip))))
 (.reg false [0, 1, 7, 8] [oQ 18 (.bin .add (.t 8) (kI 1)),
 oQ 8 (.mov (.t 18))])))))))
 (.seq
 (.reg false [4] [oQ 4 (.mov (.k (.d (.int .i64 (-1)))))])
 .ret)))
theorem c201 : (Go.Proofs.Tryz.f201).body.bind (comp prog.P (2, (Go.Proofs.Tryz.f201).ntmps) lv201) = some m201 := by kernel_rfl
theorem r201 : resOK prog.P (Go.Proofs.Tryz.f201).results.toList = true := by kernel_rfl
def lv202 : List (Nat × List Nat) := [(0, [1, 2]), (1, [3])]
def m202 : MC :=
  (.seq
 (.reg false [1, 2] [oX 2 (.box (.t 0)),
 oQ 3 (.mov (kB false))])
 (.seq
 (.reg false [3] [oQ 4 (.fa 0 0 (.t 2)),
 oQ 5 (.ld none (.t 4)),
 oQ 6 (.ld none (.t 1)),
 oQ 7 (.bin .eql (.t 5) (.t 6)),
 oQ 3 (.mov (.t 7))])
 .ret))
theorem c202 : (Go.Proofs.Tryz.f202).body.bind (comp prog.P (2, (Go.Proofs.Tryz.f202).ntmps) lv202) = some m202 := by kernel_rfl
theorem r202 : resOK prog.P (Go.Proofs.Tryz.f202).results.toList = true := by kernel_rfl
theorem en202 : enterOK prog.P 202 = true := by kernel_rfl
def lv221 : List (Nat × List Nat) := [(0, [0, 2]), (1, [0])]
def m221 : MC :=
  (.seq
 (.reg false [0, 2] [oQ 3 (.mov (.t 0)),
 oQ 4 (.len false (.t 3)),
 oQ 2 (.mov (.t 4))])
 (.reg false [0] [oQ 5 (.mov (.t 0)),
 oQ 6 (.mov (.t 2)),
 oQ 7 (.mov (.t 2)),
 oQ 8 (.conv .u64 (.t 7)),
 oX 9 (.call 249 [(.t 8)]),
 oX 10 (.call 248 [(.t 5), (kI 0), (.t 6), (.t 9)])]))
theorem c221 : (Go.Proofs.Tryz.f221).body.bind (comp prog.P (1, (Go.Proofs.Tryz.f221).ntmps) lv221) = some m221 := by kernel_rfl
theorem r221 : resOK prog.P (Go.Proofs.Tryz.f221).results.toList = true := by kernel_rfl
def lv222 : List (Nat × List Nat) := [(0, [0, 1]), (1, [0, 1, 5]), (2, [0, 1, 5, 19]), (3, [0, 4]), (4, [0, 1, 5, 21]), (5, [0, 1, 5, 25]), (6, [0, 4]), (7, [0, 1]), (8, [0, 1, 5, 21, 46]), (9, [0, 1]), (10, [0, 1, 5, 55]), (11, [0, 1]), (12, [0]), (13, [0, 4]), (1000007, [1, 20, 1, 0, 1, 1, 1, 2, 1, 3, 1, 4, 1, 5, 1, 6, 1, 10, 1, 11, 1, 12, 1, 13, 2, 7, 1, 8, 1, 9, 2, 14, 1, 15, 2, 16, 2, 17, 1, 18, 1, 19, 2, 20, 0])]
def m222 : MC :=
  (.seq
 (.reg false [0, 1] [oQ 4 (.mov (kB false))])
 (.seq
 (.reg false [0, 1, 5] [oQ 6 (.mov (.t 0)),
 oQ 7 (.nck (.t 6)),
 oQ 8 (.fa 1 1 (.t 7)),
 oQ 9 (.ld none (.t 8)),
 oQ 10 (.mov (.t 1)),
 oQ 11 (.ia 4 (.t 9) (.t 10)),
 oQ 12 (.ld (some 4) (.t 11)),
 oX 5 (.alloc (.st (.cons (.int .i64 0) (.cons (.int .i64 0) (.cons (.int .i64 0) (.cons (.sl true 1 .nil) .nil)))))),
 oN (.st 4 (.t 5) (.t 12))])
 (.seq
 (.seq
 (.reg true [0, 1, 5, 19] [oQ 13 (.fa 2 2 (.t 5)),
 oQ 14 (.ld none (.t 13)),
 oQ 15 (.mov (.t 0)),
 oQ 16 (.nck (.t 15)),
 oQ 17 (.fa 0 0 (.t 16)),
 oQ 18 (.ld none (.t 17)),
 oQ 19 (.bin .gtr (.t 14) (.t 18))])
 (.cond (.t 19)
 (.seq
 (.reg false [0, 4] [oQ 4 (.mov (kB false))])
 .ret)
 .skip))
 (.seq
 (.seq
 (.reg false [0, 1, 5, 21] [oQ 20 (.fa 1 1 (.t 5)),
 oQ 21 (.ld none (.t 20))])
 (.block 0
 (.seq
 (.reg false [0, 1, 5, 21, 46] [oQ 47 (.bin .eql (.t 21) (kI 1)),
 oQ 46 (.mov (.t 47))])
 (.cond (.t 46)
 (.reg false [0, 1] [oQ 48 (.mov (.t 0)),
 oQ 49 (.nck (.t 48)),
 oQ 50 (.fa 2 2 (.t 49)),
 oQ 51 (.ld none (.t 50)),
 oQ 52 (.bin .add (.t 51) (kI 1)),
 oQ 53 (.nck (.t 48)),
 oQ 54 (.fa 2 2 (.t 53)),
 oN (.st 1 (.t 54) (.t 52))])
 (.seq
 (.reg false [0, 1, 5, 55] [oQ 56 (.bin .eql (.t 21) (kI 2)),
 oQ 55 (.mov (.t 56))])
 (.cond (.t 55)
 (.reg false [0, 1] [oQ 57 (.mov (.t 0)),
 oQ 58 (.nck (.t 57)),
 oQ 59 (.fa 3 3 (.t 58)),
 oQ 60 (.ld none (.t 59)),
 oQ 61 (.bin .add (.t 60) (kI 1)),
 oQ 62 (.nck (.t 57)),
 oQ 63 (.fa 3 3 (.t 62)),
 oN (.st 1 (.t 63) (.t 61))])
 (.seq
 (.seq
 (.reg false [0, 1, 5, 25] [oQ 22 (.fa 3 3 (.t 5)),
 oQ 23 (.ld none (.t 22)),
 oQ 24 (.len false (.t 23)),
 oQ 25 (.bin .gtr (.t 24) (kI 0))])
 (.cond (.t 25)
 (.seq
 (.reg false [0, 4] [oQ 4 (.mov (kB false))])
 .ret)
 .skip))
 (.any [20] [0, 1] (.q 0 (oQ 26 (.mov (.t 0))) (.q 1 (oQ 27 (.mov (.t 0))) (.q 2 (oQ 28 (.nck (.t 27))) (.q 3 (oQ 29 (.fa 4 4 (.t 28))) (.q 4 (oQ 30 (.ld none (.t 29))) (.q 5 (oQ 31 (.fa 0 0 (.t 5))) (.q 6 (oQ 32 (.ld none (.t 31))) (.q 10 (oQ 36 (.mov (.t 0))) (.q 11 (oQ 37 (.nck (.t 36))) (.q 12 (oQ 38 (.fa 0 0 (.t 37))) (.q 13 (oQ 39 (.ld none (.t 38))) (.e 7 (oX 33 (.call 146 [(.t 32)])) (.q 8 (oQ 34 (.bin .add (.k (.d (.str [114]))) (.t 33))) (.q 9 (oQ 35 (.bin .add (.t 34) (.k (.d (.str [32, 100]))))) (.e 14 (oX 40 (.call 146 [(.t 39)])) (.q 15 (oQ 41 (.bin .add (.t 35) (.t 40))) (.e 16 (oX 42 (.bs 1 1 (.str []) [(0, (.t 41))])) (.e 17 (oX 43 (.app 1 16 (.t 30) (.t 42))) (.q 18 (oQ 44 (.nck (.t 26))) (.q 19 (oQ 45 (.fa 4 4 (.t 44))) (.e 20 (oN (.st 1 (.t 45) (.t 43))) .done)))))))))))))))))))))))))))))
 (.seq
 (.reg false [0] [oQ 64 (.mov (.t 0)),
 oQ 65 (.mov (.t 0)),
 oQ 66 (.nck (.t 65)),
 oQ 67 (.fa 1 1 (.t 66)),
 oQ 68 (.ld none (.t 67)),
 oQ 69 (.mov (.t 1)),
 oQ 70 (.mov (.t 1)),
 oQ 71 (.bin .add (.t 70) (kI 1)),
 oX 72 (.call 250 [(.t 68), (.t 69), (.t 71)]),
 oQ 73 (.nck (.t 64)),
 oQ 74 (.fa 1 1 (.t 73)),
 oN (.st 1 (.t 74) (.t 72))])
 (.seq
 (.reg false [0, 4] [oQ 4 (.mov (kB true))])
 .ret))))))
theorem c222 : (Go.Proofs.Tryz.f222).body.bind (comp prog.P (2, (Go.Proofs.Tryz.f222).ntmps) lv222) = some m222 := by kernel_rfl
theorem r222 : resOK prog.P (Go.Proofs.Tryz.f222).results.toList = true := by kernel_rfl
def lv223 : List (Nat × List Nat) := [(0, [0]), (1, [0, 3]), (2, [0, 3, 8]), (3, [0, 3]), (4, [0, 3, 4]), (5, [0, 3, 33]), (6, [2]), (7, [2])]
def m223 : MC :=
  (.seq
 (.reg false [0] [oQ 2 (.mov (kB false))])
 (.seq
 (.seq
 (.reg false [0, 3] [oQ 3 (.mov (kI 0))])
 (.block 0
 (.loop
 (.seq
 (.seq
 (.reg false [0, 3, 8] [oQ 5 (.mov (.t 3)),
 oQ 6 (.mov (.t 0)),
 oQ 7 (.len true (.t 6)),
 oQ 8 (.bin .lss (.t 5) (.t 7))])
 (.cond (.t 8)
 .skip
 (.exit 0)))
 (.seq
 (.block 1
 (.seq
 (.reg false [0, 3, 4] [oQ 11 (.mov (.t 0)),
 oQ 12 (.mov (.t 3)),
 oQ 13 (.ix (.t 11) (.t 12)),
 oQ 4 (.mov (.t 13))])
 (.seq
 (.reg false [0, 3, 33] [oQ 14 (.mov (.t 4)),
 oX 15 (.call 251 [(.t 14)]),
 oQ 16 (.un .not (.t 15)),
 oQ 17 (.mov (.t 16)),
 oG 18 17 true (.mov (.t 4)),
 oG 19 17 true (.bin .geq (.t 18) (.k (.d (.int .u8 48)))),
 oG 20 17 true (.mov (.t 19)),
 oG 21 20 true (.mov (.t 4)),
 oG 22 20 true (.bin .leq (.t 21) (.k (.d (.int .u8 57)))),
 oG 23 17 true (.pick (.t 20) (.t 22) (kB false)),
 oG 24 17 true (.un .not (.t 23)),
 oQ 25 (.pick (.t 17) (.t 24) (kB false)),
 oQ 26 (.mov (.t 25)),
 oG 27 26 true (.mov (.t 4)),
 oG 28 26 true (.bin .neq (.t 27) (.k (.d (.int .u8 32)))),
 oQ 29 (.pick (.t 26) (.t 28) (kB false)),
 oQ 30 (.mov (.t 29)),
 oG 31 30 true (.mov (.t 4)),
 oG 32 30 true (.bin .neq (.t 31) (.k (.d (.int .u8 45)))),
 oQ 33 (.pick (.t 30) (.t 32) (kB false))])
 (.cond (.t 33)
 (.seq
 (.reg false [2] [oQ 2 (.mov (kB false))])
 .ret)
 .skip))))
 (.reg false [0, 3] [oQ 9 (.mov (.t 3)),
 oQ 10 (.bin .add (.t 9) (kI 1)),
 oQ 3 (.mov (.t 10))]))))))
 (.seq
 (.reg false [2] [oQ 34 (.mov (.t 0)),
 oQ 35 (.len true (.t 34)),
 oX 36 (.call 136 [(.t 35), (kI 1), (kI 40)]),
 oQ 2 (.mov (.t 36))])
 .ret)))
theorem c223 : (Go.Proofs.Tryz.f223).body.bind (comp prog.P (1, (Go.Proofs.Tryz.f223).ntmps) lv223) = some m223 := by kernel_rfl
theorem r223 : resOK prog.P (Go.Proofs.Tryz.f223).results.toList = true := by kernel_rfl
def lv224 : List (Nat × List Nat) := [(0, [0, 1, 2]), (1, [0, 1, 2, 7]), (2, [0, 1, 2, 7, 11]), (3, [0, 1, 2, 7]), (4, [0, 1, 2, 7, 37]), (5, [6]), (6, [6])]
def m224 : MC :=
  (.seq
 (.reg false [0, 1, 2] [oQ 6 (.mov (kB false))])
 (.seq
 (.seq
 (.reg false [0, 1, 2, 7] [oQ 7 (.mov (kI 0))])
 (.block 0
 (.loop
 (.seq
 (.seq
 (.reg false [0, 1, 2, 7, 11] [oQ 8 (.mov (.t 7)),
 oQ 9 (.mov (.t 0)),
 oQ 10 (.len false (.t 9)),
 oQ 11 (.bin .lss (.t 8) (.t 10))])
 (.cond (.t 11)
 .skip
 (.exit 0)))
 (.seq
 (.block 1
 (.seq
 (.reg true [0, 1, 2, 7, 37] [oQ 14 (.mov (.t 0)),
 oQ 15 (.mov (.t 7)),
 oQ 16 (.ia 1 (.t 14) (.t 15)),
 oQ 17 (.ld none (.t 16)),
 oQ 18 (.mov (.t 1)),
 oQ 19 (.mov (.t 2)),
 oQ 20 (.callP 136 [(.t 17), (.t 18), (.t 19)]),
 oQ 21 (.un .not (.t 20)),
 oQ 22 (.mov (.t 21)),
 oG 23 22 false (.mov (.t 7)),
 oG 24 22 false (.bin .gtr (.t 23) (kI 0)),
 oG 25 22 false (.mov (.t 24)),
 oG 26 25 true (.mov (.t 0)),
 oG 27 25 true (.mov (.t 7)),
 oG 28 25 true (.bin .sub (.t 27) (kI 1)),
 oG 29 25 true (.ia 1 (.t 26) (.t 28)),
 oG 30 25 true (.ld none (.t 29)),
 oG 31 25 true (.mov (.t 0)),
 oG 32 25 true (.mov (.t 7)),
 oG 33 25 true (.ia 1 (.t 31) (.t 32)),
 oG 34 25 true (.ld none (.t 33)),
 oG 35 25 true (.bin .geq (.t 30) (.t 34)),
 oG 36 22 false (.pick (.t 25) (.t 35) (kB false)),
 oQ 37 (.pick (.t 22) (kB true) (.t 36))])
 (.cond (.t 37)
 (.seq
 (.reg false [6] [oQ 6 (.mov (kB false))])
 .ret)
 .skip)))
 (.reg false [0, 1, 2, 7] [oQ 12 (.mov (.t 7)),
 oQ 13 (.bin .add (.t 12) (kI 1)),
 oQ 7 (.mov (.t 13))]))))))
 (.seq
 (.reg false [6] [oQ 6 (.mov (kB true))])
 .ret)))
theorem c224 : (Go.Proofs.Tryz.f224).body.bind (comp prog.P (3, (Go.Proofs.Tryz.f224).ntmps) lv224) = some m224 := by kernel_rfl
theorem r224 : resOK prog.P (Go.Proofs.Tryz.f224).results.toList = true := by kernel_rfl
def lv225 : List (Nat × List Nat) := [(0, [0, 1]), (1, [0, 1, 7, 8]), (2, [0, 1, 7, 8, 9]), (3, [0, 1, 5, 7, 8]), (4, [0, 1, 5, 7, 8, 16]), (5, [4]), (6, [0, 1, 7, 8]), (7, [4])]
def m225 : MC :=
  (.seq
 (.reg false [0, 1] [oQ 4 (.mov (kI 0))])
 (.seq
 (.seq
 (.reg false [0, 1, 7, 8] [oQ 6 (.mov (.t 0)),
 oQ 7 (.len false (.t 6)),
 oQ 8 (.mov (kI 0))])
 (.block 0
 (.loop
 (.seq
 (.reg false [0, 1, 7, 8, 9] [oQ 9 (.bin .lss (.t 8) (.t 7))])
 (.seq
 (.cond (.t 9)
 .skip
 (.exit 0))
 (.seq
 (.block 1
 (.seq
 (.reg false [0, 1, 5, 7, 8] [oQ 10 (.mov (.t 8)),
 oQ 5 (.mov (.t 10))])
 (.seq
 (.reg false [0, 1, 5, 7, 8, 16] [oQ 11 (.mov (.t 1)),
 oQ 12 (.mov (.t 0)),
 oQ 13 (.mov (.t 5)),
 oQ 14 (.ia 1 (.t 12) (.t 13)),
 oQ 15 (.ld none (.t 14)),
 oX 16 (.callW (.t 11) [(.t 15)])])
 (.cond (.t 16)
 (.seq
 (.reg false [4] [oQ 17 (.mov (.t 5)),
 oQ 4 (.mov (.t 17))])
 .ret)
 .skip))))
 (.reg false [0, 1, 7, 8] [oQ 18 (.bin .add (.t 8) (kI 1)),
 oQ 8 (.mov (.t 18))])))))))
 (.seq
 (.reg false [4] [oQ 4 (.mov (.k (.d (.int .i64 (-1)))))])
 .ret)))
theorem c225 : (Go.Proofs.Tryz.f225).body.bind (comp prog.P (2, (Go.Proofs.Tryz.f225).ntmps) lv225) = some m225 := by kernel_rfl
theorem r225 : resOK prog.P (Go.Proofs.Tryz.f225).results.toList = true := by kernel_rfl
def lv226 : List (Nat × List Nat) := [(0, [0, 1]), (1, [0, 1, 12]), (2, [4]), (3, [0, 1, 21]), (4, [4]), (5, [0, 1, 5, 6]), (6, [0, 1, 5, 34]), (7, [4]), (8, [4])]
def m226 : MC :=
  (.seq
 (.reg false [0, 1] [oQ 4 (.mov (.k (.d (.str []))))])
 (.seq
 (.seq
 (.reg false [0, 1, 12] [oQ 7 (.mov (.t 0)),
 oQ 8 (.bin .eql (.t 7) (.k (.d (.str [])))),
 oQ 9 (.mov (.t 8)),
 oG 10 9 false (.mov (.t 1)),
 oG 11 9 false (.bin .eql (.t 10) (.k (.d (.str [])))),
 oQ 12 (.pick (.t 9) (kB true) (.t 11))])
 (.cond (.t 12)
 (.seq
 (.reg false [4] [oQ 13 (.mov (.t 0)),
 oQ 4 (.mov (.t 13))])
 .ret)
 .skip))
 (.seq
 (.seq
 (.reg false [0, 1, 21] [oQ 14 (.mov (.t 1)),
 oQ 15 (.len true (.t 14)),
 oQ 16 (.bin .eql (.t 15) (kI 1)),
 oQ 17 (.mov (.t 16)),
 oG 18 17 true (.mov (.t 1)),
 oG 19 17 true (.ix (.t 18) (kI 0)),
 oG 20 17 true (.bin .lss (.t 19) (.k (.d (.int .u8 128)))),
 oQ 21 (.pick (.t 17) (.t 20) (kB false))])
 (.cond (.t 21)
 (.seq
 (.reg true [4] [oQ 22 (.mov (.t 0)),
 oQ 23 (.mov (.t 1)),
 oQ 24 (.ix (.t 23) (kI 0)),
 oQ 25 (.callP 253 [(.t 22), (.t 24)]),
 oQ 26 (.mov (.t 1)),
 oQ 27 (.ix (.t 26) (kI 0)),
 oQ 28 (.callP 252 [(.t 25), (.t 27)]),
 oQ 4 (.mov (.t 28))])
 .ret)
 .skip))
 (.seq
 (.seq
 (.reg false [0, 1, 5, 6] [oQ 30 (.mov (.t 1)),
 oX 31 (.call 254 [(.t 30)]),
 oQ 29 (.mov (.t 31)),
 oQ 32 (.ext (.t 29) 0),
 oQ 33 (.ext (.t 29) 1),
 oX 5 (.alloc (.st (ofL (List.replicate 256 (.bool false))))),
 oN (.st 256 (.t 5) (.t 32)),
 oQ 6 (.mov (.t 33))])
 (.seq
 (.reg false [0, 1, 5, 34] [oQ 34 (.mov (.t 6))])
 (.cond (.t 34)
 (.seq
 (.reg false [4] [oQ 35 (.mov (.t 0)),
 oX 36 (.call 256 [(.t 35), (.t 5)]),
 oX 37 (.call 255 [(.t 36), (.t 5)]),
 oQ 4 (.mov (.t 37))])
 .ret)
 .skip)))
 (.seq
 (.reg false [4] [oQ 38 (.mov (.t 0)),
 oQ 39 (.mov (.t 1)),
 oX 40 (.call 258 [(.t 38), (.t 39)]),
 oQ 41 (.mov (.t 1)),
 oX 42 (.call 257 [(.t 40), (.t 41)]),
 oQ 4 (.mov (.t 42))])
 .ret)))))
theorem c226 : (Go.Proofs.Tryz.f226).body.bind (comp prog.P (2, (Go.Proofs.Tryz.f226).ntmps) lv226) = some m226 := by kernel_rfl
theorem r226 : resOK prog.P (Go.Proofs.Tryz.f226).results.toList = true := by kernel_rfl
def lv227 : List (Nat × List Nat) := [(0, [0, 1]), (1, [0, 1, 7, 8]), (2, [0, 1, 7, 8, 9]), (3, [0, 1, 5, 7, 8]), (4, [0, 1, 5, 7, 8, 16]), (5, [4]), (6, [0, 1, 7, 8]), (7, [4])]
def m227 : MC :=
  (.seq
 (.reg false [0, 1] [oQ 4 (.mov (kI 0))])
 (.seq
 (.seq
 (.reg false [0, 1, 7, 8] [oQ 6 (.mov (.t 0)),
 oQ 7 (.len false (.t 6)),
 oQ 8 (.mov (kI 0))])
 (.block 0
 (.loop
 (.seq
 (.reg false [0, 1, 7, 8, 9] [oQ 9 (.bin .lss (.t 8) (.t 7))])
 (.seq
 (.cond (.t 9)
 .skip
 (.exit 0))
 (.seq
 (.block 1
 (.seq
 (.reg false [0, 1, 5, 7, 8] [oQ 10 (.mov (.t 8)),
 oQ 5 (.mov (.t 10))])
 (.seq
 (.reg false [0, 1, 5, 7, 8, 16] [oQ 11 (.mov (.t 1)),
 oQ 12 (.mov (.t 0)),
 oQ 13 (.mov (.t 5)),
 oQ 14 (.ia 1 (.t 12) (.t 13)),
 oQ 15 (.ld none (.t 14)),
 oX 16 (.callW (.t 11) [(.t 15)])])
 (.cond (.t 16)
 (.seq
 (.reg false [4] [oQ 17 (.mov (.t 5)),
 oQ 4 (.mov (.t 17))])
 .ret)
 .skip))))
 (.reg false [0, 1, 7, 8] [oQ 18 (.bin .add (.t 8) (kI 1)),
 oQ 8 (.mov (.t 18))])))))))
 (.seq
 (.reg false [4] [oQ 4 (.mov (.k (.d (.int .i64 (-1)))))])
 .ret)))
theorem c227 : (Go.Proofs.Tryz.f227).body.bind (comp prog.P (2, (Go.Proofs.Tryz.f227).ntmps) lv227) = some m227 := by kernel_rfl
theorem r227 : resOK prog.P (Go.Proofs.Tryz.f227).results.toList = true := by kernel_rfl
def lv228 : List (Nat × List Nat) := [(0, [0, 1]), (1, [1]), (2, [1, 10]), (3, [4]), (4, [4])]
def m228 : MC :=
  (.seq
 (.reg false [0, 1] [oQ 4 (.mov (kI 0))])
 (.seq
 (.reg false [1] [oQ 5 (.mov (.t 1)),
 oQ 6 (.mov (.t 0)),
 oQ 7 (.len false (.t 6)),
 oQ 8 (.bin .sub (.t 5) (.t 7)),
 oQ 1 (.mov (.t 8))])
 (.seq
 (.seq
 (.reg false [1, 10] [oQ 9 (.mov (.t 1)),
 oQ 10 (.bin .lss (.t 9) (kI 0))])
 (.cond (.t 10)
 (.seq
 (.reg false [4] [oQ 4 (.mov (.k (.d (.int .i64 (-1)))))])
 .ret)
 .skip))
 (.seq
 (.reg false [4] [oQ 11 (.mov (.t 1)),
 oQ 4 (.mov (.t 11))])
 .ret))))
theorem c228 : (Go.Proofs.Tryz.f228).body.bind (comp prog.P (1, (Go.Proofs.Tryz.f228).ntmps) lv228) = some m228 := by kernel_rfl
theorem r228 : resOK prog.P (Go.Proofs.Tryz.f228).results.toList = true := by kernel_rfl
def lv229 : List (Nat × List Nat) := [(0, [0]), (1, [0, 3]), (2, [0, 3, 4]), (3, [0, 3, 4, 11]), (4, [0, 3, 4]), (5, [0, 3, 4]), (6, [2])]
def m229 : MC :=
  (.seq
 (.reg false [0] [oQ 2 (.mov (.k .nil))])
 (.seq
 (.reg false [0, 3] [oQ 5 (.mov (.t 0)),
 oQ 6 (.len false (.t 5)),
 oX 7 (.mk 1 8 (.int .i64 0) (.t 6)),
 oQ 3 (.mov (.t 7))])
 (.seq
 (.seq
 (.reg false [0, 3, 4] [oQ 4 (.mov (kI 0))])
 (.block 0
 (.loop
 (.seq
 (.seq
 (.reg false [0, 3, 4, 11] [oQ 8 (.mov (.t 4)),
 oQ 9 (.mov (.t 0)),
 oQ 10 (.len false (.t 9)),
 oQ 11 (.bin .lss (.t 8) (.t 10))])
 (.cond (.t 11)
 .skip
 (.exit 0)))
 (.seq
 (.block 1
 (.reg false [0, 3, 4] [oQ 14 (.mov (.t 3)),
 oQ 15 (.mov (.t 4)),
 oQ 16 (.mov (.t 0)),
 oQ 17 (.mov (.t 4)),
 oQ 18 (.ia 1 (.t 16) (.t 17)),
 oQ 19 (.ld none (.t 18)),
 oQ 20 (.ia 1 (.t 14) (.t 15)),
 oN (.st 1 (.t 20) (.t 19))]))
 (.reg false [0, 3, 4] [oQ 12 (.mov (.t 4)),
 oQ 13 (.bin .add (.t 12) (kI 1)),
 oQ 4 (.mov (.t 13))]))))))
 (.seq
 (.reg false [2] [oQ 21 (.mov (.t 3)),
 oQ 2 (.mov (.t 21))])
 .ret))))
theorem c229 : (Go.Proofs.Tryz.f229).body.bind (comp prog.P (1, (Go.Proofs.Tryz.f229).ntmps) lv229) = some m229 := by kernel_rfl
theorem r229 : resOK prog.P (Go.Proofs.Tryz.f229).results.toList = true := by kernel_rfl
def lv230 : List (Nat × List Nat) := [(0, [0, 1]), (1, [0, 1, 10]), (2, [4]), (3, [0, 1, 5]), (4, [0, 1, 5, 14]), (5, [0, 1, 5]), (6, [0, 1, 5, 25]), (7, [4]), (8, [4])]
def m230 : MC :=
  (.seq
 (.reg false [0, 1] [oQ 4 (.mov (kB false))])
 (.seq
 (.seq
 (.reg false [0, 1, 10] [oQ 6 (.mov (.t 0)),
 oQ 7 (.len false (.t 6)),
 oQ 8 (.mov (.t 1)),
 oQ 9 (.len false (.t 8)),
 oQ 10 (.bin .neq (.t 7) (.t 9))])
 (.cond (.t 10)
 (.seq
 (.reg false [4] [oQ 4 (.mov (kB false))])
 .ret)
 .skip))
 (.seq
 (.seq
 (.reg false [0, 1, 5] [oQ 5 (.mov (kI 0))])
 (.block 0
 (.loop
 (.seq
 (.seq
 (.reg false [0, 1, 5, 14] [oQ 11 (.mov (.t 5)),
 oQ 12 (.mov (.t 0)),
 oQ 13 (.len false (.t 12)),
 oQ 14 (.bin .lss (.t 11) (.t 13))])
 (.cond (.t 14)
 .skip
 (.exit 0)))
 (.seq
 (.block 1
 (.seq
 (.reg true [0, 1, 5, 25] [oQ 17 (.mov (.t 0)),
 oQ 18 (.mov (.t 5)),
 oQ 19 (.ia 1 (.t 17) (.t 18)),
 oQ 20 (.ld none (.t 19)),
 oQ 21 (.mov (.t 1)),
 oQ 22 (.mov (.t 5)),
 oQ 23 (.ia 1 (.t 21) (.t 22)),
 oQ 24 (.ld none (.t 23)),
 oQ 25 (.bin .neq (.t 20) (.t 24))])
 (.cond (.t 25)
 (.seq
 (.reg false [4] [oQ 4 (.mov (kB false))])
 .ret)
 .skip)))
 (.reg false [0, 1, 5] [oQ 15 (.mov (.t 5)),
 oQ 16 (.bin .add (.t 15) (kI 1)),
 oQ 5 (.mov (.t 16))]))))))
 (.seq
 (.reg false [4] [oQ 4 (.mov (kB true))])
 .ret))))
theorem c230 : (Go.Proofs.Tryz.f230).body.bind (comp prog.P (2, (Go.Proofs.Tryz.f230).ntmps) lv230) = some m230 := by kernel_rfl
theorem r230 : resOK prog.P (Go.Proofs.Tryz.f230).results.toList = true := by kernel_rfl
end Go.Pe.Tryz
