/-
The compact code of the functions that the law reaches,printed by gen.py,each with the proof that the machine's code is compiled to it.
-/
import Derived.Test.YtmkmjcgkcpmmpaaGreatDoorMc1
import Derived.Test.YtmkmjcgkcpmmpaaGreatDoorProg
import Derived.KernelRfl
set_option maxRecDepth 100000
namespace Go.Pe.Tryz
open Go.Pe
def aSG:List (Nat×List Nat):=[(0,[1,2,4]),(1,[1,4,6,7]),(2,[1,4,6,7,8]),(3,[1,4,6,7,8,18]),(4,[1,4,6,7,8]),(5,[1,4,6,7,8,9]),(6,[1,4,6,7,8,9,10]),(7,[1,4,6,7,8,9,10,30]),(8,[1,4,6,7,8,9,10]),(9,[1,4,6,7,8,9,10,11]),(10,[1,4,6,7,8,9,10,11,44]),(11,[1,4,6,7,8,9,10]),(12,[1,4,6,7,8,9,10]),(13,[1,4,6,7,8]),(14,[4,5])]
def m78:MC :=
 (.seq
 (.reg false [1,2,4] [oX 2 (.box (.t 0)),
 oX 4 (.alloc (.st (.cons (.int .i64 0) (.cons (.sl true 4 .nil) (.cons (.int .i64 0) (.cons (.int .i64 0) (.cons (.sl true 1 .nil) .nil))))))),
 oQ 5 (.mov (kB false))])
 (.seq
 (.reg false [1,4,6,7] [oQ 12 (.ldv 5 (.t 2)),
 oX 13 (.call 52 [(.t 12)]),
 oX 6 (.alloc (.st (.cons (.int .i64 0) (.cons (.sl true 4 .nil) (.cons (.int .i64 0) (.cons (.int .i64 0) (.cons (.sl true 1 .nil) .nil))))))),
 oN (.st 5 (.t 6) (.t 13)),
 oQ 7 (.mov (kB false))])
 (.seq
 (.seq
 (.reg false [1,4,6,7,8] [oQ 8 (.mov (kI 0))])
 (.block 0
 (.loop
 (.seq
 (.seq
 (.reg false [1,4,6,7,8,18] [oQ 14 (.mov (.t 8)),
 oQ 15 (.fa 1 1 (.t 6)),
 oQ 16 (.ld none (.t 15)),
 oQ 17 (.len false (.t 16)),
 oQ 18 (.bin .lss (.t 14) (.t 17))])
 (.cond (.t 18)
 .skip
 (.exit 0)))
 (.seq
 (.block 1
 (.seq
 (.reg false [1,4,6,7,8,9] [oX 21 (.bs 1 0 (.int .i64 0) []),
 oQ 9 (.mov (.t 21))])
 (.seq
 (.seq
 (.reg false [1,4,6,7,8,9,10] [oQ 10 (.mov (kI 0))])
 (.block 2
 (.loop
 (.seq
 (.seq
 (.reg false [1,4,6,7,8,9,10,30] [oQ 22 (.mov (.t 10)),
 oQ 23 (.fa 1 1 (.t 6)),
 oQ 24 (.ld none (.t 23)),
 oQ 25 (.mov (.t 8)),
 oQ 26 (.ia 4 (.t 24) (.t 25)),
 oQ 27 (.fa 3 3 (.t 26)),
 oQ 28 (.ld none (.t 27)),
 oQ 29 (.len false (.t 28)),
 oQ 30 (.bin .lss (.t 22) (.t 29))])
 (.cond (.t 30)
 .skip
 (.exit 2)))
 (.seq
 (.block 3
 (.seq
 (.reg false [1,4,6,7,8,9,10,11] [oQ 33 (.fa 1 1 (.t 6)),
 oQ 34 (.ld none (.t 33)),
 oQ 35 (.mov (.t 8)),
 oQ 36 (.ia 4 (.t 34) (.t 35)),
 oQ 37 (.fa 3 3 (.t 36)),
 oQ 38 (.ld none (.t 37)),
 oQ 39 (.mov (.t 10)),
 oQ 40 (.ia 1 (.t 38) (.t 39)),
 oQ 41 (.ld none (.t 40)),
 oQ 11 (.mov (.t 41))])
 (.seq
 (.reg false [1,4,6,7,8,9,10,11,44] [oQ 42 (.mov (.t 11)),
 oQ 43 (.mov (.t 1)),
 oQ 44 (.bin .eql (.t 42) (.t 43))])
 (.cond (.t 44)
 (.reg false [1,4,6,7,8,9,10] [oQ 7 (.mov (kB true))])
 (.reg false [1,4,6,7,8,9,10] [oQ 45 (.mov (.t 9)),
 oQ 46 (.mov (.t 11)),
 oX 47 (.bs 1 1 (.int .i64 0) [(0,(.t 46))]),
 oX 48 (.app 1 8 (.t 45) (.t 47)),
 oQ 9 (.mov (.t 48))])))))
 (.reg false [1,4,6,7,8,9,10] [oQ 31 (.mov (.t 10)),
 oQ 32 (.bin .add (.t 31) (kI 1)),
 oQ 10 (.mov (.t 32))]))))))
 (.reg false [1,4,6,7,8] [oQ 49 (.fa 1 1 (.t 6)),
 oQ 50 (.ld none (.t 49)),
 oQ 51 (.mov (.t 8)),
 oQ 52 (.mov (.t 9)),
 oQ 53 (.ia 4 (.t 50) (.t 51)),
 oQ 54 (.fa 3 3 (.t 53)),
 oN (.st 1 (.t 54) (.t 52))]))))
 (.reg false [1,4,6,7,8] [oQ 19 (.mov (.t 8)),
 oQ 20 (.bin .add (.t 19) (kI 1)),
 oQ 8 (.mov (.t 20))]))))))
 (.seq
 (.reg false [4,5] [oQ 55 (.ldv 5 (.t 6)),
 oQ 56 (.mov (.t 7)),
 oN (.st 5 (.t 4) (.t 55)),
 oQ 5 (.mov (.t 56))])
 .ret))))
theorem c78:(Go.Proofs.Tryz.f78).body.bind (comp prog.P (2,(Go.Proofs.Tryz.f78).ntmps) aSG)=some m78:=by kernel_rfl
theorem r78:b6 prog.P (Go.Proofs.Tryz.f78).results.toList=true:=by kernel_rfl
def aQR:List (Nat×List Nat):=[(0,[1,2,4]),(1,[1,2,4,6,7]),(2,[2,4,6,7]),(3,[2,4,6,7,29]),(4,[2,4,6,7]),(5,[4,5]),(6,[2,4,6,7,29,60]),(7,[2,4,6,7]),(8,[2,4,6,7,66]),(9,[2,4,6,7]),(10,[4,5]),(1000001,[0,1,2,1,3,1,4,1,5,1,6,3,2,0,3,2,1,3,2,7,2,8,2,9,2,10,0,2,8,2,7,2,9,2,10,0,3,2,7,3,2,1,2,8,2,9,2,10,0,2,8,2,1,2,9,2,10,0,2,8,3,2,1,2,7,2,9,2,10,0,2,7,2,1,2,9,2,10,0,3,2,7,3,2,0,3,2,1,2,8,2,9,2,10,0,2,8,2,1,2,9,2,10,0,2,8,2,0,2,1,2,9,2,10,0,2,8,3,2,0,3,2,1,2,7,2,9,2,10,0,2,7,2,1,2,9,2,10,0,2,7,2,0,2,1,2,9,2,10,0]),(1000002,[1,13,1,1,1,2,1,3,1,4,1,6,1,7,1,8,1,9,1,10,2,0,2,5,2,11,1,12,2,13,0]),(1000004,[1,14,1,0,1,1,1,2,1,3,1,7,1,8,2,4,1,5,1,6,2,9,1,10,2,11,2,12,1,13,2,14,0]),(1000005,[2,16,17,1,1,1,3,3,2,0,3,2,2,2,4,1,5,1,6,1,7,2,8,1,9,1,10,1,11,1,12,2,13,2,14,1,15,2,16,2,17,0,2,4,2,2,1,5,1,6,1,7,2,8,1,9,1,10,1,11,1,12,2,13,2,14,1,15,2,16,2,17,0,3,2,2,3,2,0,2,4,1,5,1,6,1,7,2,8,1,9,1,10,1,11,1,12,2,13,2,14,1,15,2,16,2,17,0,2,4,1,5,1,6,1,7,3,2,0,2,8,1,9,1,10,1,11,1,12,2,13,2,14,1,15,2,16,2,17,0,2,8,1,9,1,10,1,11,1,12,3,2,0,2,13,2,14,1,15,2,16,2,17,0,2,13,3,2,0,2,14,1,15,2,16,2,17,0,2,14,1,15,2,0,2,16,2,17,0,2,4,3,2,0,2,2,1,5,1,6,1,7,2,8,1,9,1,10,1,11,1,12,2,13,2,14,1,15,2,16,2,17,0,2,2,1,5,1,6,1,7,3,2,0,2,8,1,9,1,10,1,11,1,12,2,13,2,14,1,15,2,16,2,17,0,2,8,1,9,1,10,1,11,1,12,3,2,0,2,13,2,14,1,15,2,16,2,17,0,2,13,3,2,0,2,14,1,15,2,16,2,17,0,2,14,1,15,2,0,2,16,2,17,0]),(1000010,[2,10,11,1,1,1,3,3,2,0,3,2,2,2,4,1,5,1,6,2,7,2,8,1,9,2,10,2,11,0,2,4,2,2,1,5,1,6,2,7,2,8,1,9,2,10,2,11,0,3,2,2,3,2,0,2,4,1,5,1,6,2,7,2,8,1,9,2,10,2,11,0,2,4,1,5,1,6,3,2,0,2,7,2,8,1,9,2,10,2,11,0,2,7,3,2,0,2,8,1,9,2,10,2,11,0,2,8,1,9,2,0,2,10,2,11,0,2,4,3,2,0,2,2,1,5,1,6,2,7,2,8,1,9,2,10,2,11,0,2,2,1,5,1,6,3,2,0,2,7,2,8,1,9,2,10,2,11,0,2,7,3,2,0,2,8,1,9,2,10,2,11,0,2,8,1,9,2,0,2,10,2,11,0])]
def m79:MC :=
 (.seq
 (.reg false [1,2,4] [oX 2 (.box (.t 0)),
 oX 4 (.alloc (.st (.cons (.int .i64 0) (.cons (.sl true 4 .nil) (.cons (.int .i64 0) (.cons (.int .i64 0) (.cons (.sl true 1 .nil) .nil))))))),
 oQ 5 (.mov (kB false))])
 (.seq
 (.any [] [1,2,4,6,7] (.q 2 (oQ 10 (.fa 1 1 (.t 2))) (.q 3 (oQ 11 (.ld none (.t 10))) (.q 4 (oQ 12 (.mov (.t 1))) (.q 5 (oQ 13 (.ia 4 (.t 11) (.t 12))) (.q 6 (oQ 14 (.ld (some 4) (.t 13))) (.br (.e 0 (oQ 8 (.ldv 5 (.t 2))) (.br (.e 1 (oX 9 (.call 52 [(.t 8)])) (.br (.e 7 (oX 6 (.alloc (.st (.cons (.int .i64 0) (.cons (.sl true 4 .nil) (.cons (.int .i64 0) (.cons (.int .i64 0) (.cons (.sl true 1 .nil) .nil)))))))) (.e 8 (oX 7 (.alloc (.st (.cons (.int .i64 0) (.cons (.int .i64 0) (.cons (.int .i64 0) (.cons (.sl true 1 .nil) .nil))))))) (.e 9 (oN (.st 5 (.t 6) (.t 9))) (.e 10 (oN (.st 4 (.t 7) (.t 14))) .done))))
 (.e 8 (oX 7 (.alloc (.st (.cons (.int .i64 0) (.cons (.int .i64 0) (.cons (.int .i64 0) (.cons (.sl true 1 .nil) .nil))))))) (.e 7 (oX 6 (.alloc (.st (.cons (.int .i64 0) (.cons (.sl true 4 .nil) (.cons (.int .i64 0) (.cons (.int .i64 0) (.cons (.sl true 1 .nil) .nil)))))))) (.e 9 (oN (.st 5 (.t 6) (.t 9))) (.e 10 (oN (.st 4 (.t 7) (.t 14))) .done))))))
 (.br (.e 7 (oX 6 (.alloc (.st (.cons (.int .i64 0) (.cons (.sl true 4 .nil) (.cons (.int .i64 0) (.cons (.int .i64 0) (.cons (.sl true 1 .nil) .nil)))))))) (.br (.e 1 (oX 9 (.call 52 [(.t 8)])) (.e 8 (oX 7 (.alloc (.st (.cons (.int .i64 0) (.cons (.int .i64 0) (.cons (.int .i64 0) (.cons (.sl true 1 .nil) .nil))))))) (.e 9 (oN (.st 5 (.t 6) (.t 9))) (.e 10 (oN (.st 4 (.t 7) (.t 14))) .done))))
 (.e 8 (oX 7 (.alloc (.st (.cons (.int .i64 0) (.cons (.int .i64 0) (.cons (.int .i64 0) (.cons (.sl true 1 .nil) .nil))))))) (.e 1 (oX 9 (.call 52 [(.t 8)])) (.e 9 (oN (.st 5 (.t 6) (.t 9))) (.e 10 (oN (.st 4 (.t 7) (.t 14))) .done))))))
 (.e 8 (oX 7 (.alloc (.st (.cons (.int .i64 0) (.cons (.int .i64 0) (.cons (.int .i64 0) (.cons (.sl true 1 .nil) .nil))))))) (.br (.e 1 (oX 9 (.call 52 [(.t 8)])) (.e 7 (oX 6 (.alloc (.st (.cons (.int .i64 0) (.cons (.sl true 4 .nil) (.cons (.int .i64 0) (.cons (.int .i64 0) (.cons (.sl true 1 .nil) .nil)))))))) (.e 9 (oN (.st 5 (.t 6) (.t 9))) (.e 10 (oN (.st 4 (.t 7) (.t 14))) .done))))
 (.e 7 (oX 6 (.alloc (.st (.cons (.int .i64 0) (.cons (.sl true 4 .nil) (.cons (.int .i64 0) (.cons (.int .i64 0) (.cons (.sl true 1 .nil) .nil)))))))) (.e 1 (oX 9 (.call 52 [(.t 8)])) (.e 9 (oN (.st 5 (.t 6) (.t 9))) (.e 10 (oN (.st 4 (.t 7) (.t 14))) .done)))))))))
 (.br (.e 7 (oX 6 (.alloc (.st (.cons (.int .i64 0) (.cons (.sl true 4 .nil) (.cons (.int .i64 0) (.cons (.int .i64 0) (.cons (.sl true 1 .nil) .nil)))))))) (.br (.e 0 (oQ 8 (.ldv 5 (.t 2))) (.br (.e 1 (oX 9 (.call 52 [(.t 8)])) (.e 8 (oX 7 (.alloc (.st (.cons (.int .i64 0) (.cons (.int .i64 0) (.cons (.int .i64 0) (.cons (.sl true 1 .nil) .nil))))))) (.e 9 (oN (.st 5 (.t 6) (.t 9))) (.e 10 (oN (.st 4 (.t 7) (.t 14))) .done))))
 (.e 8 (oX 7 (.alloc (.st (.cons (.int .i64 0) (.cons (.int .i64 0) (.cons (.int .i64 0) (.cons (.sl true 1 .nil) .nil))))))) (.e 1 (oX 9 (.call 52 [(.t 8)])) (.e 9 (oN (.st 5 (.t 6) (.t 9))) (.e 10 (oN (.st 4 (.t 7) (.t 14))) .done))))))
 (.e 8 (oX 7 (.alloc (.st (.cons (.int .i64 0) (.cons (.int .i64 0) (.cons (.int .i64 0) (.cons (.sl true 1 .nil) .nil))))))) (.e 0 (oQ 8 (.ldv 5 (.t 2))) (.e 1 (oX 9 (.call 52 [(.t 8)])) (.e 9 (oN (.st 5 (.t 6) (.t 9))) (.e 10 (oN (.st 4 (.t 7) (.t 14))) .done)))))))
 (.e 8 (oX 7 (.alloc (.st (.cons (.int .i64 0) (.cons (.int .i64 0) (.cons (.int .i64 0) (.cons (.sl true 1 .nil) .nil))))))) (.br (.e 0 (oQ 8 (.ldv 5 (.t 2))) (.br (.e 1 (oX 9 (.call 52 [(.t 8)])) (.e 7 (oX 6 (.alloc (.st (.cons (.int .i64 0) (.cons (.sl true 4 .nil) (.cons (.int .i64 0) (.cons (.int .i64 0) (.cons (.sl true 1 .nil) .nil)))))))) (.e 9 (oN (.st 5 (.t 6) (.t 9))) (.e 10 (oN (.st 4 (.t 7) (.t 14))) .done))))
 (.e 7 (oX 6 (.alloc (.st (.cons (.int .i64 0) (.cons (.sl true 4 .nil) (.cons (.int .i64 0) (.cons (.int .i64 0) (.cons (.sl true 1 .nil) .nil)))))))) (.e 1 (oX 9 (.call 52 [(.t 8)])) (.e 9 (oN (.st 5 (.t 6) (.t 9))) (.e 10 (oN (.st 4 (.t 7) (.t 14))) .done))))))
 (.e 7 (oX 6 (.alloc (.st (.cons (.int .i64 0) (.cons (.sl true 4 .nil) (.cons (.int .i64 0) (.cons (.int .i64 0) (.cons (.sl true 1 .nil) .nil)))))))) (.e 0 (oQ 8 (.ldv 5 (.t 2))) (.e 1 (oX 9 (.call 52 [(.t 8)])) (.e 9 (oN (.st 5 (.t 6) (.t 9))) (.e 10 (oN (.st 4 (.t 7) (.t 14))) .done)))))))))))))))
 (.seq
 (.any [13] [2,4,6,7] (.q 1 (oQ 16 (.fa 1 1 (.t 6))) (.q 2 (oQ 17 (.ld none (.t 16))) (.q 3 (oQ 18 (.mov (.t 1))) (.q 4 (oQ 19 (.slx 4 (.t 17) none (some (.t 18)))) (.q 6 (oQ 21 (.fa 1 1 (.t 6))) (.q 7 (oQ 22 (.ld none (.t 21))) (.q 8 (oQ 23 (.mov (.t 1))) (.q 9 (oQ 24 (.bin .add (.t 23) (kI 1))) (.q 10 (oQ 25 (.slx 4 (.t 22) (some (.t 24)) none)) (.e 0 (oX 15 (.bs 4 0 (.st (.cons (.int .i64 0) (.cons (.int .i64 0) (.cons (.int .i64 0) (.cons (.sl true 1 .nil) .nil))))) [])) (.e 5 (oX 20 (.app 4 48 (.t 15) (.t 19))) (.e 11 (oX 26 (.app 4 48 (.t 20) (.t 25))) (.q 12 (oQ 27 (.fa 1 1 (.t 6))) (.e 13 (oN (.st 1 (.t 27) (.t 26))) .done)))))))))))))))
 (.seq
 (.seq
 (.reg false [2,4,6,7,29] [oQ 28 (.fa 1 1 (.t 7)),
 oQ 29 (.ld none (.t 28))])
 (.block 0
 (.seq
 (.reg false [2,4,6,7,29,60] [oQ 61 (.bin .eql (.t 29) (kI 1)),
 oQ 60 (.mov (.t 61))])
 (.cond (.t 60)
 (.reg false [2,4,6,7] [oQ 62 (.fa 2 2 (.t 2)),
 oQ 63 (.ld none (.t 62)),
 oQ 64 (.bin .add (.t 63) (kI 1)),
 oQ 65 (.fa 2 2 (.t 6)),
 oN (.st 1 (.t 65) (.t 64))])
 (.seq
 (.reg false [2,4,6,7,66] [oQ 67 (.bin .eql (.t 29) (kI 2)),
 oQ 66 (.mov (.t 67))])
 (.cond (.t 66)
 (.reg false [2,4,6,7] [oQ 68 (.fa 3 3 (.t 2)),
 oQ 69 (.ld none (.t 68)),
 oQ 70 (.bin .add (.t 69) (kI 1)),
 oQ 71 (.fa 3 3 (.t 6)),
 oN (.st 1 (.t 71) (.t 70))])
 (.seq
 (.any [14] [2,4,6,7] (.q 0 (oQ 30 (.fa 4 4 (.t 6))) (.q 1 (oQ 31 (.ld none (.t 30))) (.q 2 (oQ 32 (.fa 0 0 (.t 7))) (.q 3 (oQ 33 (.ld none (.t 32))) (.q 7 (oQ 37 (.fa 0 0 (.t 2))) (.q 8 (oQ 38 (.ld none (.t 37))) (.e 4 (oX 34 (.call 99 [(.t 33)])) (.q 5 (oQ 35 (.bin .add (.k (.d (.str [114]))) (.t 34))) (.q 6 (oQ 36 (.bin .add (.t 35) (.k (.d (.str [32,100]))))) (.e 9 (oX 39 (.call 99 [(.t 38)])) (.q 10 (oQ 40 (.bin .add (.t 36) (.t 39))) (.e 11 (oX 41 (.bs 1 1 (.str []) [(0,(.t 40))])) (.e 12 (oX 42 (.app 1 16 (.t 31) (.t 41))) (.q 13 (oQ 43 (.fa 4 4 (.t 6))) (.e 14 (oN (.st 1 (.t 43) (.t 42))) .done))))))))))))))))
 (.seq
 (.any [16,17] [4,5] (.q 1 (oQ 45 (.fa 2 2 (.t 7))) (.q 3 (oQ 47 (.fa 0 0 (.t 2))) (.br (.e 0 (oQ 44 (.ldv 5 (.t 6))) (.br (.e 2 (oQ 46 (.ld none (.t 45))) (.e 4 (oQ 48 (.ld none (.t 47))) (.q 5 (oQ 49 (.bin .leq (.t 46) (.t 48))) (.q 6 (oQ 50 (.mov (.t 49))) (.q 7 (oG 51 50 true (.fa 3 3 (.t 7))) (.e 8 (oG 52 50 true (.ld none (.t 51))) (.q 9 (oG 53 50 true (.len false (.t 52))) (.q 10 (oG 54 50 true (.bin .eql (.t 53) (kI 0))) (.q 11 (oQ 55 (.pick (.t 50) (.t 54) (kB false))) (.q 12 (oQ 56 (.mov (.t 55))) (.e 13 (oG 57 56 true (.ldv 5 (.t 6))) (.e 14 (oH 58 56 true (.call 40 [(.t 57)])) (.q 15 (oQ 59 (.pick (.t 56) (.t 58) (kB false))) (.e 16 (oN (.st 5 (.t 4) (.t 44))) (.e 17 (oQ 5 (.mov (.t 59))) .done)))))))))))))))
 (.e 4 (oQ 48 (.ld none (.t 47))) (.e 2 (oQ 46 (.ld none (.t 45))) (.q 5 (oQ 49 (.bin .leq (.t 46) (.t 48))) (.q 6 (oQ 50 (.mov (.t 49))) (.q 7 (oG 51 50 true (.fa 3 3 (.t 7))) (.e 8 (oG 52 50 true (.ld none (.t 51))) (.q 9 (oG 53 50 true (.len false (.t 52))) (.q 10 (oG 54 50 true (.bin .eql (.t 53) (kI 0))) (.q 11 (oQ 55 (.pick (.t 50) (.t 54) (kB false))) (.q 12 (oQ 56 (.mov (.t 55))) (.e 13 (oG 57 56 true (.ldv 5 (.t 6))) (.e 14 (oH 58 56 true (.call 40 [(.t 57)])) (.q 15 (oQ 59 (.pick (.t 56) (.t 58) (kB false))) (.e 16 (oN (.st 5 (.t 4) (.t 44))) (.e 17 (oQ 5 (.mov (.t 59))) .done)))))))))))))))))
 (.br (.e 2 (oQ 46 (.ld none (.t 45))) (.br (.e 0 (oQ 44 (.ldv 5 (.t 6))) (.e 4 (oQ 48 (.ld none (.t 47))) (.q 5 (oQ 49 (.bin .leq (.t 46) (.t 48))) (.q 6 (oQ 50 (.mov (.t 49))) (.q 7 (oG 51 50 true (.fa 3 3 (.t 7))) (.e 8 (oG 52 50 true (.ld none (.t 51))) (.q 9 (oG 53 50 true (.len false (.t 52))) (.q 10 (oG 54 50 true (.bin .eql (.t 53) (kI 0))) (.q 11 (oQ 55 (.pick (.t 50) (.t 54) (kB false))) (.q 12 (oQ 56 (.mov (.t 55))) (.e 13 (oG 57 56 true (.ldv 5 (.t 6))) (.e 14 (oH 58 56 true (.call 40 [(.t 57)])) (.q 15 (oQ 59 (.pick (.t 56) (.t 58) (kB false))) (.e 16 (oN (.st 5 (.t 4) (.t 44))) (.e 17 (oQ 5 (.mov (.t 59))) .done)))))))))))))))
 (.e 4 (oQ 48 (.ld none (.t 47))) (.q 5 (oQ 49 (.bin .leq (.t 46) (.t 48))) (.q 6 (oQ 50 (.mov (.t 49))) (.q 7 (oG 51 50 true (.fa 3 3 (.t 7))) (.br (.e 0 (oQ 44 (.ldv 5 (.t 6))) (.e 8 (oG 52 50 true (.ld none (.t 51))) (.q 9 (oG 53 50 true (.len false (.t 52))) (.q 10 (oG 54 50 true (.bin .eql (.t 53) (kI 0))) (.q 11 (oQ 55 (.pick (.t 50) (.t 54) (kB false))) (.q 12 (oQ 56 (.mov (.t 55))) (.e 13 (oG 57 56 true (.ldv 5 (.t 6))) (.e 14 (oH 58 56 true (.call 40 [(.t 57)])) (.q 15 (oQ 59 (.pick (.t 56) (.t 58) (kB false))) (.e 16 (oN (.st 5 (.t 4) (.t 44))) (.e 17 (oQ 5 (.mov (.t 59))) .done)))))))))))
 (.e 8 (oG 52 50 true (.ld none (.t 51))) (.q 9 (oG 53 50 true (.len false (.t 52))) (.q 10 (oG 54 50 true (.bin .eql (.t 53) (kI 0))) (.q 11 (oQ 55 (.pick (.t 50) (.t 54) (kB false))) (.q 12 (oQ 56 (.mov (.t 55))) (.br (.e 0 (oQ 44 (.ldv 5 (.t 6))) (.e 13 (oG 57 56 true (.ldv 5 (.t 6))) (.e 14 (oH 58 56 true (.call 40 [(.t 57)])) (.q 15 (oQ 59 (.pick (.t 56) (.t 58) (kB false))) (.e 16 (oN (.st 5 (.t 4) (.t 44))) (.e 17 (oQ 5 (.mov (.t 59))) .done))))))
 (.e 13 (oG 57 56 true (.ldv 5 (.t 6))) (.br (.e 0 (oQ 44 (.ldv 5 (.t 6))) (.e 14 (oH 58 56 true (.call 40 [(.t 57)])) (.q 15 (oQ 59 (.pick (.t 56) (.t 58) (kB false))) (.e 16 (oN (.st 5 (.t 4) (.t 44))) (.e 17 (oQ 5 (.mov (.t 59))) .done)))))
 (.e 14 (oH 58 56 true (.call 40 [(.t 57)])) (.q 15 (oQ 59 (.pick (.t 56) (.t 58) (kB false))) (.e 0 (oQ 44 (.ldv 5 (.t 6))) (.e 16 (oN (.st 5 (.t 4) (.t 44))) (.e 17 (oQ 5 (.mov (.t 59))) .done))))))))))))))))))))
 (.e 4 (oQ 48 (.ld none (.t 47))) (.br (.e 0 (oQ 44 (.ldv 5 (.t 6))) (.e 2 (oQ 46 (.ld none (.t 45))) (.q 5 (oQ 49 (.bin .leq (.t 46) (.t 48))) (.q 6 (oQ 50 (.mov (.t 49))) (.q 7 (oG 51 50 true (.fa 3 3 (.t 7))) (.e 8 (oG 52 50 true (.ld none (.t 51))) (.q 9 (oG 53 50 true (.len false (.t 52))) (.q 10 (oG 54 50 true (.bin .eql (.t 53) (kI 0))) (.q 11 (oQ 55 (.pick (.t 50) (.t 54) (kB false))) (.q 12 (oQ 56 (.mov (.t 55))) (.e 13 (oG 57 56 true (.ldv 5 (.t 6))) (.e 14 (oH 58 56 true (.call 40 [(.t 57)])) (.q 15 (oQ 59 (.pick (.t 56) (.t 58) (kB false))) (.e 16 (oN (.st 5 (.t 4) (.t 44))) (.e 17 (oQ 5 (.mov (.t 59))) .done)))))))))))))))
 (.e 2 (oQ 46 (.ld none (.t 45))) (.q 5 (oQ 49 (.bin .leq (.t 46) (.t 48))) (.q 6 (oQ 50 (.mov (.t 49))) (.q 7 (oG 51 50 true (.fa 3 3 (.t 7))) (.br (.e 0 (oQ 44 (.ldv 5 (.t 6))) (.e 8 (oG 52 50 true (.ld none (.t 51))) (.q 9 (oG 53 50 true (.len false (.t 52))) (.q 10 (oG 54 50 true (.bin .eql (.t 53) (kI 0))) (.q 11 (oQ 55 (.pick (.t 50) (.t 54) (kB false))) (.q 12 (oQ 56 (.mov (.t 55))) (.e 13 (oG 57 56 true (.ldv 5 (.t 6))) (.e 14 (oH 58 56 true (.call 40 [(.t 57)])) (.q 15 (oQ 59 (.pick (.t 56) (.t 58) (kB false))) (.e 16 (oN (.st 5 (.t 4) (.t 44))) (.e 17 (oQ 5 (.mov (.t 59))) .done)))))))))))
 (.e 8 (oG 52 50 true (.ld none (.t 51))) (.q 9 (oG 53 50 true (.len false (.t 52))) (.q 10 (oG 54 50 true (.bin .eql (.t 53) (kI 0))) (.q 11 (oQ 55 (.pick (.t 50) (.t 54) (kB false))) (.q 12 (oQ 56 (.mov (.t 55))) (.br (.e 0 (oQ 44 (.ldv 5 (.t 6))) (.e 13 (oG 57 56 true (.ldv 5 (.t 6))) (.e 14 (oH 58 56 true (.call 40 [(.t 57)])) (.q 15 (oQ 59 (.pick (.t 56) (.t 58) (kB false))) (.e 16 (oN (.st 5 (.t 4) (.t 44))) (.e 17 (oQ 5 (.mov (.t 59))) .done))))))
 (.e 13 (oG 57 56 true (.ldv 5 (.t 6))) (.br (.e 0 (oQ 44 (.ldv 5 (.t 6))) (.e 14 (oH 58 56 true (.call 40 [(.t 57)])) (.q 15 (oQ 59 (.pick (.t 56) (.t 58) (kB false))) (.e 16 (oN (.st 5 (.t 4) (.t 44))) (.e 17 (oQ 5 (.mov (.t 59))) .done)))))
 (.e 14 (oH 58 56 true (.call 40 [(.t 57)])) (.q 15 (oQ 59 (.pick (.t 56) (.t 58) (kB false))) (.e 0 (oQ 44 (.ldv 5 (.t 6))) (.e 16 (oN (.st 5 (.t 4) (.t 44))) (.e 17 (oQ 5 (.mov (.t 59))) .done)))))))))))))))))))))))))
 .ret))))))))
 (.seq
 (.any [10,11] [4,5] (.q 1 (oQ 73 (.fa 2 2 (.t 7))) (.q 3 (oQ 75 (.fa 0 0 (.t 2))) (.br (.e 0 (oQ 72 (.ldv 5 (.t 6))) (.br (.e 2 (oQ 74 (.ld none (.t 73))) (.e 4 (oQ 76 (.ld none (.t 75))) (.q 5 (oQ 77 (.bin .leq (.t 74) (.t 76))) (.q 6 (oQ 78 (.mov (.t 77))) (.e 7 (oG 79 78 true (.ldv 5 (.t 6))) (.e 8 (oH 80 78 true (.call 40 [(.t 79)])) (.q 9 (oQ 81 (.pick (.t 78) (.t 80) (kB false))) (.e 10 (oN (.st 5 (.t 4) (.t 72))) (.e 11 (oQ 5 (.mov (.t 81))) .done)))))))))
 (.e 4 (oQ 76 (.ld none (.t 75))) (.e 2 (oQ 74 (.ld none (.t 73))) (.q 5 (oQ 77 (.bin .leq (.t 74) (.t 76))) (.q 6 (oQ 78 (.mov (.t 77))) (.e 7 (oG 79 78 true (.ldv 5 (.t 6))) (.e 8 (oH 80 78 true (.call 40 [(.t 79)])) (.q 9 (oQ 81 (.pick (.t 78) (.t 80) (kB false))) (.e 10 (oN (.st 5 (.t 4) (.t 72))) (.e 11 (oQ 5 (.mov (.t 81))) .done)))))))))))
 (.br (.e 2 (oQ 74 (.ld none (.t 73))) (.br (.e 0 (oQ 72 (.ldv 5 (.t 6))) (.e 4 (oQ 76 (.ld none (.t 75))) (.q 5 (oQ 77 (.bin .leq (.t 74) (.t 76))) (.q 6 (oQ 78 (.mov (.t 77))) (.e 7 (oG 79 78 true (.ldv 5 (.t 6))) (.e 8 (oH 80 78 true (.call 40 [(.t 79)])) (.q 9 (oQ 81 (.pick (.t 78) (.t 80) (kB false))) (.e 10 (oN (.st 5 (.t 4) (.t 72))) (.e 11 (oQ 5 (.mov (.t 81))) .done)))))))))
 (.e 4 (oQ 76 (.ld none (.t 75))) (.q 5 (oQ 77 (.bin .leq (.t 74) (.t 76))) (.q 6 (oQ 78 (.mov (.t 77))) (.br (.e 0 (oQ 72 (.ldv 5 (.t 6))) (.e 7 (oG 79 78 true (.ldv 5 (.t 6))) (.e 8 (oH 80 78 true (.call 40 [(.t 79)])) (.q 9 (oQ 81 (.pick (.t 78) (.t 80) (kB false))) (.e 10 (oN (.st 5 (.t 4) (.t 72))) (.e 11 (oQ 5 (.mov (.t 81))) .done))))))
 (.e 7 (oG 79 78 true (.ldv 5 (.t 6))) (.br (.e 0 (oQ 72 (.ldv 5 (.t 6))) (.e 8 (oH 80 78 true (.call 40 [(.t 79)])) (.q 9 (oQ 81 (.pick (.t 78) (.t 80) (kB false))) (.e 10 (oN (.st 5 (.t 4) (.t 72))) (.e 11 (oQ 5 (.mov (.t 81))) .done)))))
 (.e 8 (oH 80 78 true (.call 40 [(.t 79)])) (.q 9 (oQ 81 (.pick (.t 78) (.t 80) (kB false))) (.e 0 (oQ 72 (.ldv 5 (.t 6))) (.e 10 (oN (.st 5 (.t 4) (.t 72))) (.e 11 (oQ 5 (.mov (.t 81))) .done)))))))))))))
 (.e 4 (oQ 76 (.ld none (.t 75))) (.br (.e 0 (oQ 72 (.ldv 5 (.t 6))) (.e 2 (oQ 74 (.ld none (.t 73))) (.q 5 (oQ 77 (.bin .leq (.t 74) (.t 76))) (.q 6 (oQ 78 (.mov (.t 77))) (.e 7 (oG 79 78 true (.ldv 5 (.t 6))) (.e 8 (oH 80 78 true (.call 40 [(.t 79)])) (.q 9 (oQ 81 (.pick (.t 78) (.t 80) (kB false))) (.e 10 (oN (.st 5 (.t 4) (.t 72))) (.e 11 (oQ 5 (.mov (.t 81))) .done)))))))))
 (.e 2 (oQ 74 (.ld none (.t 73))) (.q 5 (oQ 77 (.bin .leq (.t 74) (.t 76))) (.q 6 (oQ 78 (.mov (.t 77))) (.br (.e 0 (oQ 72 (.ldv 5 (.t 6))) (.e 7 (oG 79 78 true (.ldv 5 (.t 6))) (.e 8 (oH 80 78 true (.call 40 [(.t 79)])) (.q 9 (oQ 81 (.pick (.t 78) (.t 80) (kB false))) (.e 10 (oN (.st 5 (.t 4) (.t 72))) (.e 11 (oQ 5 (.mov (.t 81))) .done))))))
 (.e 7 (oG 79 78 true (.ldv 5 (.t 6))) (.br (.e 0 (oQ 72 (.ldv 5 (.t 6))) (.e 8 (oH 80 78 true (.call 40 [(.t 79)])) (.q 9 (oQ 81 (.pick (.t 78) (.t 80) (kB false))) (.e 10 (oN (.st 5 (.t 4) (.t 72))) (.e 11 (oQ 5 (.mov (.t 81))) .done)))))
 (.e 8 (oH 80 78 true (.call 40 [(.t 79)])) (.q 9 (oQ 81 (.pick (.t 78) (.t 80) (kB false))) (.e 0 (oQ 72 (.ldv 5 (.t 6))) (.e 10 (oN (.st 5 (.t 4) (.t 72))) (.e 11 (oQ 5 (.mov (.t 81))) .done))))))))))))))))))
 .ret)))))
theorem c79:(Go.Proofs.Tryz.f79).body.bind (comp prog.P (2,(Go.Proofs.Tryz.f79).ntmps) aQR)=some m79:=by kernel_rfl
theorem r79:b6 prog.P (Go.Proofs.Tryz.f79).results.toList=true:=by kernel_rfl
def aRy:List (Nat×List Nat):=[(0,[0,1]),(1,[4])]
def m80:MC :=
 (.seq
 (.reg false [0,1] [oQ 4 (.mov (kB false))])
 (.seq
 (.reg false [4] [oQ 5 (.mov (.t 0)),
 oQ 6 (.mov (.t 1)),
 oX 7 (.call 107 [(.t 5),(.t 6)]),
 oQ 8 (.bin .geq (.t 7) (kI 0)),
 oQ 4 (.mov (.t 8))])
 .ret))
theorem c80:(Go.Proofs.Tryz.f80).body.bind (comp prog.P (2,(Go.Proofs.Tryz.f80).ntmps) aRy)=some m80:=by kernel_rfl
theorem r80:b6 prog.P (Go.Proofs.Tryz.f80).results.toList=true:=by kernel_rfl
def aRY:List (Nat×List Nat):=[(0,[0]),(1,[2])]
def m81:MC :=
 (.seq
 (.reg false [0] [oQ 2 (.mov (kB false))])
 (.seq
 (.reg false [2] [oQ 3 (.mov (.t 0)),
 oX 4 (.call 82 [(.t 3)]),
 oQ 5 (.un .not (.t 4)),
 oQ 2 (.mov (.t 5))])
 .ret))
theorem c81:(Go.Proofs.Tryz.f81).body.bind (comp prog.P (1,(Go.Proofs.Tryz.f81).ntmps) aRY)=some m81:=by kernel_rfl
theorem r81:b6 prog.P (Go.Proofs.Tryz.f81).results.toList=true:=by kernel_rfl
theorem aSn:eU prog.P 81=true:=by kernel_rfl
def aQx:List (Nat×List Nat):=[(0,[0]),(1,[2])]
def m82:MC :=
 (.seq
 (.reg false [0] [oQ 2 (.mov (kB false))])
 (.seq
 (.reg false [2] [oQ 3 (.mov (.t 0)),
 oQ 4 (.len true (.t 3)),
 oX 5 (.call 37 [(.t 4),(kI 1),(kI 40)]),
 oQ 6 (.mov (.t 5)),
 oG 7 6 true (.mov (.t 0)),
 oH 8 6 true (.call 108 [(.t 7),(.k (.d (.str [97,98,99,100,101,102,103,104,105,106,107,108,109,110,111,112,113,114,115,116,117,118,119,120,121,122,48,49,50,51,52,53,54,55,56,57,32,45])))]),
 oG 9 6 true (.bin .eql (.t 8) (.k (.d (.str [])))),
 oQ 10 (.pick (.t 6) (.t 9) (kB false)),
 oQ 2 (.mov (.t 10))])
 .ret))
theorem c82:(Go.Proofs.Tryz.f82).body.bind (comp prog.P (1,(Go.Proofs.Tryz.f82).ntmps) aQx)=some m82:=by kernel_rfl
theorem r82:b6 prog.P (Go.Proofs.Tryz.f82).results.toList=true:=by kernel_rfl
def aP1:List (Nat×List Nat):=[(0,[0]),(1,[2])]
def m83:MC :=
 (.seq
 (.reg false [0] [oQ 2 (.mov (kB false))])
 (.seq
 (.reg false [2] [oQ 3 (.mov (.t 0)),
 oX 4 (.call 37 [(.t 3),(kI 1),(kI 999)]),
 oQ 2 (.mov (.t 4))])
 .ret))
theorem c83:(Go.Proofs.Tryz.f83).body.bind (comp prog.P (1,(Go.Proofs.Tryz.f83).ntmps) aP1)=some m83:=by kernel_rfl
theorem r83:b6 prog.P (Go.Proofs.Tryz.f83).results.toList=true:=by kernel_rfl
def aSP:List (Nat×List Nat):=[(0,[0]),(1,[2])]
def m84:MC :=
 (.seq
 (.reg false [0] [oQ 2 (.mov (kB false))])
 (.seq
 (.reg false [2] [oQ 3 (.mov (.t 0)),
 oX 4 (.call 37 [(.t 3),(kI 1),(kI 3)]),
 oQ 2 (.mov (.t 4))])
 .ret))
theorem c84:(Go.Proofs.Tryz.f84).body.bind (comp prog.P (1,(Go.Proofs.Tryz.f84).ntmps) aSP)=some m84:=by kernel_rfl
theorem r84:b6 prog.P (Go.Proofs.Tryz.f84).results.toList=true:=by kernel_rfl
def aQB:List (Nat×List Nat):=[(0,[0]),(1,[0,3]),(2,[0,3,7]),(3,[0,3]),(4,[0,3,19]),(5,[2]),(6,[2])]
def m85:MC :=
 (.seq
 (.reg false [0] [oQ 2 (.mov (kB false))])
 (.seq
 (.seq
 (.reg false [0,3] [oQ 3 (.mov (kI 1))])
 (.block 0
 (.loop
 (.seq
 (.seq
 (.reg false [0,3,7] [oQ 4 (.mov (.t 3)),
 oQ 5 (.mov (.t 0)),
 oQ 6 (.len false (.t 5)),
 oQ 7 (.bin .lss (.t 4) (.t 6))])
 (.cond (.t 7)
 .skip
 (.exit 0)))
 (.seq
 (.block 1
 (.seq
 (.reg true [0,3,19] [oQ 10 (.mov (.t 0)),
 oQ 11 (.mov (.t 3)),
 oQ 12 (.bin .sub (.t 11) (kI 1)),
 oQ 13 (.ia 1 (.t 10) (.t 12)),
 oQ 14 (.ld none (.t 13)),
 oQ 15 (.mov (.t 0)),
 oQ 16 (.mov (.t 3)),
 oQ 17 (.ia 1 (.t 15) (.t 16)),
 oQ 18 (.ld none (.t 17)),
 oQ 19 (.bin .geq (.t 14) (.t 18))])
 (.cond (.t 19)
 (.seq
 (.reg false [2] [oQ 2 (.mov (kB false))])
 .ret)
 .skip)))
 (.reg false [0,3] [oQ 8 (.mov (.t 3)),
 oQ 9 (.bin .add (.t 8) (kI 1)),
 oQ 3 (.mov (.t 9))]))))))
 (.seq
 (.reg false [2] [oQ 2 (.mov (kB true))])
 .ret)))
theorem c85:(Go.Proofs.Tryz.f85).body.bind (comp prog.P (1,(Go.Proofs.Tryz.f85).ntmps) aQB)=some m85:=by kernel_rfl
theorem r85:b6 prog.P (Go.Proofs.Tryz.f85).results.toList=true:=by kernel_rfl
def aRx:List (Nat×List Nat):=[(0,[0,1]),(1,[4])]
def m86:MC :=
 (.seq
 (.reg false [0,1] [oQ 4 (.mov (kB false))])
 (.seq
 (.reg false [4] [oQ 5 (.mov (.t 0)),
 oQ 6 (.mov (.t 1)),
 oX 7 (.call 109 [(.t 5),(.t 6)]),
 oQ 8 (.bin .geq (.t 7) (kI 0)),
 oQ 4 (.mov (.t 8))])
 .ret))
theorem c86:(Go.Proofs.Tryz.f86).body.bind (comp prog.P (2,(Go.Proofs.Tryz.f86).ntmps) aRx)=some m86:=by kernel_rfl
theorem r86:b6 prog.P (Go.Proofs.Tryz.f86).results.toList=true:=by kernel_rfl
def aRt:List (Nat×List Nat):=[(0,[0]),(1,[2])]
def m87:MC :=
 (.seq
 (.reg false [0] [oQ 2 (.mov (kB false))])
 (.seq
 (.reg false [2] [oQ 3 (.mov (.t 0)),
 oX 4 (.call 57 [(.t 3)]),
 oQ 5 (.un .not (.t 4)),
 oQ 2 (.mov (.t 5))])
 .ret))
theorem c87:(Go.Proofs.Tryz.f87).body.bind (comp prog.P (1,(Go.Proofs.Tryz.f87).ntmps) aRt)=some m87:=by kernel_rfl
theorem r87:b6 prog.P (Go.Proofs.Tryz.f87).results.toList=true:=by kernel_rfl
theorem aRl:eU prog.P 87=true:=by kernel_rfl
def aQG:List (Nat×List Nat):=[(0,[0]),(1,[0,3]),(2,[0,3,13]),(3,[0,3]),(4,[0,3]),(5,[0,3]),(6,[0,3,53]),(7,[0,2]),(8,[0,2])]
def m88:MC :=
 (.seq
 (.reg false [0] [oQ 2 (.mov (kI 0))])
 (.seq
 (.reg false [0,3] [oQ 3 (.mov (kI 0))])
 (.seq
 (.seq
 (.reg true [0,3,13] [oQ 4 (.mov (.t 0)),
 oQ 5 (.nck (.t 4)),
 oQ 6 (.fa 1 1 (.t 5)),
 oQ 7 (.ld none (.t 6)),
 oQ 8 (.mov (.t 0)),
 oQ 9 (.nck (.t 8)),
 oQ 10 (.fa 0 0 (.t 9)),
 oQ 11 (.ld none (.t 10)),
 oQ 12 (.len false (.t 11)),
 oQ 13 (.bin .lss (.t 7) (.t 12))])
 (.cond (.t 13)
 (.reg true [0,3] [oQ 14 (.mov (.t 0)),
 oQ 15 (.nck (.t 14)),
 oQ 16 (.fa 0 0 (.t 15)),
 oQ 17 (.ld none (.t 16)),
 oQ 18 (.mov (.t 0)),
 oQ 19 (.nck (.t 18)),
 oQ 20 (.fa 1 1 (.t 19)),
 oQ 21 (.ld none (.t 20)),
 oQ 22 (.ia 1 (.t 17) (.t 21)),
 oQ 23 (.ld none (.t 22)),
 oQ 24 (.conv .i64 (.t 23)),
 oQ 3 (.mov (.t 24))])
 .skip))
 (.seq
 (.reg false [0,3] [oQ 25 (.mov (.t 0)),
 oQ 26 (.nck (.t 25)),
 oQ 27 (.fa 1 1 (.t 26)),
 oQ 28 (.ld none (.t 27)),
 oQ 29 (.bin .add (.t 28) (kI 1)),
 oQ 30 (.nck (.t 25)),
 oQ 31 (.fa 1 1 (.t 30)),
 oN (.st 1 (.t 31) (.t 29))])
 (.seq
 (.reg false [0,3] [oQ 32 (.mov (.t 0)),
 oQ 33 (.mov (.t 0)),
 oQ 34 (.nck (.t 33)),
 oQ 35 (.fa 2 2 (.t 34)),
 oQ 36 (.ld none (.t 35)),
 oQ 37 (.bin .mul (.t 36) (.k (.d (.int .u64 6364136223846793005)))),
 oQ 38 (.mov (.t 3)),
 oQ 39 (.conv .u64 (.t 38)),
 oQ 40 (.bin .add (.t 37) (.t 39)),
 oQ 41 (.bin .add (.t 40) (.k (.d (.int .u64 103535)))),
 oQ 42 (.nck (.t 32)),
 oQ 43 (.fa 2 2 (.t 42)),
 oN (.st 1 (.t 43) (.t 41))])
 (.seq
 (.seq
 (.reg true [0,3,53] [oQ 44 (.mov (.t 0)),
 oQ 45 (.nck (.t 44)),
 oQ 46 (.fa 1 1 (.t 45)),
 oQ 47 (.ld none (.t 46)),
 oQ 48 (.mov (.t 0)),
 oQ 49 (.nck (.t 48)),
 oQ 50 (.fa 0 0 (.t 49)),
 oQ 51 (.ld none (.t 50)),
 oQ 52 (.len false (.t 51)),
 oQ 53 (.bin .leq (.t 47) (.t 52))])
 (.cond (.t 53)
 (.seq
 (.reg false [0,2] [oQ 54 (.mov (.t 3)),
 oQ 2 (.mov (.t 54))])
 .ret)
 .skip))
 (.seq
 (.reg false [0,2] [oQ 55 (.mov (.t 0)),
 oQ 56 (.nck (.t 55)),
 oQ 57 (.fa 2 2 (.t 56)),
 oQ 58 (.ld none (.t 57)),
 oQ 59 (.shr (.t 58) (.k (.d (.int .u64 40)))),
 oQ 60 (.bin .and (.t 59) (.k (.d (.int .u64 255)))),
 oQ 61 (.conv .i64 (.t 60)),
 oQ 2 (.mov (.t 61))])
 .ret)))))))
theorem c88:(Go.Proofs.Tryz.f88).body.bind (comp prog.P (1,(Go.Proofs.Tryz.f88).ntmps) aQG)=some m88:=by kernel_rfl
theorem r88:b6 prog.P (Go.Proofs.Tryz.f88).results.toList=true:=by kernel_rfl
def aQl:List (Nat×List Nat):=[(0,[0]),(1,[2])]
def m89:MC :=
 (.seq
 (.reg false [0] [oQ 2 (.mov (.k .nil))])
 (.seq
 (.reg false [2] [oX 3 (.bs 1 0 (.int .i64 0) []),
 oQ 4 (.mov (.t 0)),
 oX 5 (.app 1 8 (.t 3) (.t 4)),
 oQ 2 (.mov (.t 5))])
 .ret))
theorem c89:(Go.Proofs.Tryz.f89).body.bind (comp prog.P (1,(Go.Proofs.Tryz.f89).ntmps) aQl)=some m89:=by kernel_rfl
theorem r89:b6 prog.P (Go.Proofs.Tryz.f89).results.toList=true:=by kernel_rfl
def aP3:List (Nat×List Nat):=[(0,[0,1]),(1,[0,1,7,8]),(2,[0,1,7,8,9]),(3,[0,1,5,7,8]),(4,[0,1,5,7,8,16]),(5,[4]),(6,[0,1,7,8]),(7,[4])]
def m90:MC :=
 (.seq
 (.reg false [0,1] [oQ 4 (.mov (kI 0))])
 (.seq
 (.seq
 (.reg false [0,1,7,8] [oQ 6 (.mov (.t 0)),
 oQ 7 (.len false (.t 6)),
 oQ 8 (.mov (kI 0))])
 (.block 0
 (.loop
 (.seq
 (.reg false [0,1,7,8,9] [oQ 9 (.bin .lss (.t 8) (.t 7))])
 (.seq
 (.cond (.t 9)
 .skip
 (.exit 0))
 (.seq
 (.block 1
 (.seq
 (.reg false [0,1,5,7,8] [oQ 10 (.mov (.t 8)),
 oQ 5 (.mov (.t 10))])
 (.seq
 (.reg false [0,1,5,7,8,16] [oQ 11 (.mov (.t 1)),
 oQ 12 (.mov (.t 0)),
 oQ 13 (.mov (.t 5)),
 oQ 14 (.ia 1 (.t 12) (.t 13)),
 oQ 15 (.ld none (.t 14)),
 oQ 16 (.bin .eql (.t 11) (.t 15))])
 (.cond (.t 16)
 (.seq
 (.reg false [4] [oQ 17 (.mov (.t 5)),
 oQ 4 (.mov (.t 17))])
 .ret)
 .skip))))
 (.reg false [0,1,7,8] [oQ 18 (.bin .add (.t 8) (kI 1)),
 oQ 8 (.mov (.t 18))])))))))
 (.seq
 (.reg false [4] [oQ 4 (.mov (.k (.d (.int .i64 (-1)))))])
 .ret)))
theorem c90:(Go.Proofs.Tryz.f90).body.bind (comp prog.P (2,(Go.Proofs.Tryz.f90).ntmps) aP3)=some m90:=by kernel_rfl
theorem r90:b6 prog.P (Go.Proofs.Tryz.f90).results.toList=true:=by kernel_rfl
def aSk:List (Nat×List Nat):=[(0,[0]),(1,[0,3]),(2,[3,6,7,8]),(3,[3,6,7,8,9]),(4,[3,5,6,7,8]),(5,[3,6,7,8]),(6,[3,6,7,8]),(7,[2])]
def m91:MC :=
 (.seq
 (.reg false [0] [oQ 2 (.mov (.k .nil))])
 (.seq
 (.reg false [0,3] [oQ 3 (.mov (.k .nil))])
 (.seq
 (.seq
 (.reg false [3,6,7,8] [oQ 6 (.mov (.t 0)),
 oQ 7 (.len false (.t 6)),
 oQ 8 (.mov (kI 0))])
 (.block 0
 (.loop
 (.seq
 (.reg false [3,6,7,8,9] [oQ 9 (.bin .lss (.t 8) (.t 7))])
 (.seq
 (.cond (.t 9)
 .skip
 (.exit 0))
 (.seq
 (.block 1
 (.seq
 (.reg false [3,5,6,7,8] [oQ 10 (.ia 1 (.t 6) (.t 8)),
 oQ 11 (.ld none (.t 10)),
 oQ 5 (.mov (.t 11))])
 (.reg false [3,6,7,8] [oQ 12 (.mov (.t 3)),
 oQ 13 (.mov (.t 5)),
 oX 14 (.call 110 [(.t 13)]),
 oX 15 (.bs 1 1 (.int .i64 0) [(0,(.t 14))]),
 oX 16 (.app 1 8 (.t 12) (.t 15)),
 oQ 3 (.mov (.t 16))])))
 (.reg false [3,6,7,8] [oQ 17 (.bin .add (.t 8) (kI 1)),
 oQ 8 (.mov (.t 17))])))))))
 (.seq
 (.reg false [2] [oQ 18 (.mov (.t 3)),
 oQ 2 (.mov (.t 18))])
 .ret))))
theorem c91:(Go.Proofs.Tryz.f91).body.bind (comp prog.P (1,(Go.Proofs.Tryz.f91).ntmps) aSk)=some m91:=by kernel_rfl
theorem r91:b6 prog.P (Go.Proofs.Tryz.f91).results.toList=true:=by kernel_rfl
def aQf:List (Nat×List Nat):=[(0,[0]),(1,[0,3]),(2,[0,3,4]),(3,[0,3,4,9]),(4,[0,3,4]),(5,[0,3,4]),(6,[2])]
def m93:MC :=
 (.seq
 (.reg false [0] [oQ 2 (.mov (.k .nil))])
 (.seq
 (.reg false [0,3] [oX 5 (.bs 1 0 (.int .i64 0) []),
 oQ 3 (.mov (.t 5))])
 (.seq
 (.seq
 (.reg false [0,3,4] [oQ 4 (.mov (kI 0))])
 (.block 0
 (.loop
 (.seq
 (.seq
 (.reg false [0,3,4,9] [oQ 6 (.mov (.t 4)),
 oQ 7 (.mov (.t 0)),
 oQ 8 (.len false (.t 7)),
 oQ 9 (.bin .lss (.t 6) (.t 8))])
 (.cond (.t 9)
 .skip
 (.exit 0)))
 (.seq
 (.block 1
 (.reg false [0,3,4] [oQ 12 (.mov (.t 3)),
 oQ 13 (.mov (.t 0)),
 oQ 14 (.mov (.t 4)),
 oQ 15 (.ia 1 (.t 13) (.t 14)),
 oQ 16 (.ld none (.t 15)),
 oX 17 (.call 113 [(.t 16)]),
 oX 18 (.bs 1 1 (.int .i64 0) [(0,(.t 17))]),
 oX 19 (.app 1 8 (.t 12) (.t 18)),
 oQ 3 (.mov (.t 19))]))
 (.reg false [0,3,4] [oQ 10 (.mov (.t 4)),
 oQ 11 (.bin .add (.t 10) (kI 1)),
 oQ 4 (.mov (.t 11))]))))))
 (.seq
 (.reg false [2] [oQ 20 (.mov (.t 3)),
 oQ 2 (.mov (.t 20))])
 .ret))))
theorem c93:(Go.Proofs.Tryz.f93).body.bind (comp prog.P (1,(Go.Proofs.Tryz.f93).ntmps) aQf)=some m93:=by kernel_rfl
theorem r93:b6 prog.P (Go.Proofs.Tryz.f93).results.toList=true:=by kernel_rfl
def aRa:List (Nat×List Nat):=[(0,[0]),(1,[0,3]),(2,[0,3,4]),(3,[0,3,4,9]),(4,[0,3,4]),(5,[0,3,4,16]),(6,[0,3,4]),(7,[0,3,4]),(8,[2]),(1000006,[0,1,0,1,1,1,2,1,3,1,4,1,5,1,6,1,7,1,8,1,9,2,10,2,11,2,12,1,13,0])]
def m94:MC :=
 (.seq
 (.reg false [0] [oQ 2 (.mov (.k .nil))])
 (.seq
 (.reg false [0,3] [oX 5 (.bs 1 0 (.int .i64 0) []),
 oQ 3 (.mov (.t 5))])
 (.seq
 (.seq
 (.reg false [0,3,4] [oQ 4 (.mov (kI 0))])
 (.block 0
 (.loop
 (.seq
 (.seq
 (.reg false [0,3,4,9] [oQ 6 (.mov (.t 4)),
 oQ 7 (.mov (.t 0)),
 oQ 8 (.len false (.t 7)),
 oQ 9 (.bin .lss (.t 6) (.t 8))])
 (.cond (.t 9)
 .skip
 (.exit 0)))
 (.seq
 (.block 1
 (.seq
 (.reg false [0,3,4,16] [oQ 12 (.mov (.t 4)),
 oQ 13 (.bin .add (.t 12) (kI 1)),
 oQ 14 (.mov (.t 0)),
 oQ 15 (.len false (.t 14)),
 oQ 16 (.bin .lss (.t 13) (.t 15))])
 (.cond (.t 16)
 (.any [] [0,3,4] (.q 0 (oQ 17 (.mov (.t 3))) (.q 1 (oQ 18 (.mov (.t 0))) (.q 2 (oQ 19 (.mov (.t 4))) (.q 3 (oQ 20 (.ia 1 (.t 18) (.t 19))) (.q 4 (oQ 21 (.ld none (.t 20))) (.q 5 (oQ 22 (.mov (.t 0))) (.q 6 (oQ 23 (.mov (.t 4))) (.q 7 (oQ 24 (.bin .add (.t 23) (kI 1))) (.q 8 (oQ 25 (.ia 1 (.t 22) (.t 24))) (.q 9 (oQ 26 (.ld none (.t 25))) (.e 10 (oX 27 (.call 114 [(.t 21),(.t 26)])) (.e 11 (oX 28 (.bs 1 1 (.int .i64 0) [(0,(.t 27))])) (.e 12 (oX 29 (.app 1 8 (.t 17) (.t 28))) (.q 13 (oQ 3 (.mov (.t 29))) .done)))))))))))))))
 (.reg false [0,3,4] [oQ 30 (.mov (.t 3)),
 oQ 31 (.mov (.t 0)),
 oQ 32 (.mov (.t 4)),
 oQ 33 (.ia 1 (.t 31) (.t 32)),
 oQ 34 (.ld none (.t 33)),
 oX 35 (.bs 1 1 (.int .i64 0) [(0,(.t 34))]),
 oX 36 (.app 1 8 (.t 30) (.t 35)),
 oQ 3 (.mov (.t 36))]))))
 (.reg false [0,3,4] [oQ 10 (.mov (.t 4)),
 oQ 11 (.bin .add (.t 10) (kI 2)),
 oQ 4 (.mov (.t 11))]))))))
 (.seq
 (.reg false [2] [oQ 37 (.mov (.t 3)),
 oQ 2 (.mov (.t 37))])
 .ret))))
theorem c94:(Go.Proofs.Tryz.f94).body.bind (comp prog.P (1,(Go.Proofs.Tryz.f94).ntmps) aRa)=some m94:=by kernel_rfl
theorem r94:b6 prog.P (Go.Proofs.Tryz.f94).results.toList=true:=by kernel_rfl
def aSE:List (Nat×List Nat):=[(0,[0,1]),(1,[0,1,7,8]),(2,[0,1,7,8,9]),(3,[0,1,5,7,8]),(4,[0,1,5,7,8,16]),(5,[4]),(6,[0,1,7,8]),(7,[4])]
def m95:MC :=
 (.seq
 (.reg false [0,1] [oQ 4 (.mov (kI 0))])
 (.seq
 (.seq
 (.reg false [0,1,7,8] [oQ 6 (.mov (.t 0)),
 oQ 7 (.len false (.t 6)),
 oQ 8 (.mov (kI 0))])
 (.block 0
 (.loop
 (.seq
 (.reg false [0,1,7,8,9] [oQ 9 (.bin .lss (.t 8) (.t 7))])
 (.seq
 (.cond (.t 9)
 .skip
 (.exit 0))
 (.seq
 (.block 1
 (.seq
 (.reg false [0,1,5,7,8] [oQ 10 (.mov (.t 8)),
 oQ 5 (.mov (.t 10))])
 (.seq
 (.reg false [0,1,5,7,8,16] [oQ 11 (.mov (.t 1)),
 oQ 12 (.mov (.t 0)),
 oQ 13 (.mov (.t 5)),
 oQ 14 (.ia 4 (.t 12) (.t 13)),
 oQ 15 (.ld (some 4) (.t 14)),
 oX 16 (.callW (.t 11) [(.t 15)])])
 (.cond (.t 16)
 (.seq
 (.reg false [4] [oQ 17 (.mov (.t 5)),
 oQ 4 (.mov (.t 17))])
 .ret)
 .skip))))
 (.reg false [0,1,7,8] [oQ 18 (.bin .add (.t 8) (kI 1)),
 oQ 8 (.mov (.t 18))])))))))
 (.seq
 (.reg false [4] [oQ 4 (.mov (.k (.d (.int .i64 (-1)))))])
 .ret)))
theorem c95:(Go.Proofs.Tryz.f95).body.bind (comp prog.P (2,(Go.Proofs.Tryz.f95).ntmps) aSE)=some m95:=by kernel_rfl
theorem r95:b6 prog.P (Go.Proofs.Tryz.f95).results.toList=true:=by kernel_rfl
def aRr:List (Nat×List Nat):=[(0,[1,2]),(1,[3])]
def m96:MC :=
 (.seq
 (.reg false [1,2] [oX 2 (.box (.t 0)),
 oQ 3 (.mov (kB false))])
 (.seq
 (.reg false [3] [oQ 4 (.fa 0 0 (.t 2)),
 oQ 5 (.ld none (.t 4)),
 oQ 6 (.ld none (.t 1)),
 oQ 7 (.bin .eql (.t 5) (.t 6)),
 oQ 3 (.mov (.t 7))])
 .ret))
theorem c96:(Go.Proofs.Tryz.f96).body.bind (comp prog.P (2,(Go.Proofs.Tryz.f96).ntmps) aRr)=some m96:=by kernel_rfl
theorem r96:b6 prog.P (Go.Proofs.Tryz.f96).results.toList=true:=by kernel_rfl
theorem aSM:eU prog.P 96=true:=by kernel_rfl
def aRQ:List (Nat×List Nat):=[(0,[0]),(1,[2])]
def m97:MC :=
 (.seq
 (.reg false [0] [oQ 2 (.mov (.k (.d (.str []))))])
 (.seq
 (.reg false [2] [oQ 3 (.mov (.t 0)),
 oX 4 (.call 115 [(.t 3)]),
 oQ 2 (.mov (.t 4))])
 .ret))
theorem c97:(Go.Proofs.Tryz.f97).body.bind (comp prog.P (1,(Go.Proofs.Tryz.f97).ntmps) aRQ)=some m97:=by kernel_rfl
theorem r97:b6 prog.P (Go.Proofs.Tryz.f97).results.toList=true:=by kernel_rfl
def aQt:List (Nat×List Nat):=[(0,[0,1]),(1,[0,1,5]),(2,[1,5,11,12,13]),(3,[1,5,11,12,13,14]),(4,[1,5,6,7,11,12,13]),(5,[1,5,11,12,13]),(6,[1,5,11,12,13]),(7,[4])]
def m98:MC :=
 (.seq
 (.reg false [0,1] [oQ 4 (.mov (.k (.d (.str []))))])
 (.seq
 (.reg false [0,1,5] [oQ 8 (.mov (.t 0)),
 oQ 9 (.len false (.t 8)),
 oX 10 (.mk 1 16 (.str []) (.t 9)),
 oQ 5 (.mov (.t 10))])
 (.seq
 (.seq
 (.reg false [1,5,11,12,13] [oQ 11 (.mov (.t 0)),
 oQ 12 (.len false (.t 11)),
 oQ 13 (.mov (kI 0))])
 (.block 0
 (.loop
 (.seq
 (.reg false [1,5,11,12,13,14] [oQ 14 (.bin .lss (.t 13) (.t 12))])
 (.seq
 (.cond (.t 14)
 .skip
 (.exit 0))
 (.seq
 (.block 1
 (.seq
 (.reg false [1,5,6,7,11,12,13] [oQ 15 (.mov (.t 13)),
 oQ 16 (.ia 1 (.t 11) (.t 13)),
 oQ 17 (.ld none (.t 16)),
 oQ 6 (.mov (.t 15)),
 oQ 7 (.mov (.t 17))])
 (.reg false [1,5,11,12,13] [oQ 18 (.mov (.t 5)),
 oQ 19 (.mov (.t 6)),
 oQ 20 (.mov (.t 7)),
 oX 21 (.call 97 [(.t 20)]),
 oQ 22 (.ia 1 (.t 18) (.t 19)),
 oN (.st 1 (.t 22) (.t 21))])))
 (.reg false [1,5,11,12,13] [oQ 23 (.bin .add (.t 13) (kI 1)),
 oQ 13 (.mov (.t 23))])))))))
 (.seq
 (.reg false [4] [oQ 24 (.mov (.t 5)),
 oQ 25 (.mov (.t 1)),
 oX 26 (.call 116 [(.t 24),(.t 25)]),
 oQ 4 (.mov (.t 26))])
 .ret))))
theorem c98:(Go.Proofs.Tryz.f98).body.bind (comp prog.P (2,(Go.Proofs.Tryz.f98).ntmps) aQt)=some m98:=by kernel_rfl
theorem r98:b6 prog.P (Go.Proofs.Tryz.f98).results.toList=true:=by kernel_rfl
def aQv:List (Nat×List Nat):=[(0,[0]),(1,[0,4]),(2,[2]),(3,[0,10]),(4,[2]),(5,[2])]
def m99:MC :=
 (.seq
 (.reg false [0] [oQ 2 (.mov (.k (.d (.str []))))])
 (.seq
 (.seq
 (.reg false [0,4] [oQ 3 (.mov (.t 0)),
 oQ 4 (.bin .lss (.t 3) (kI 0))])
 (.cond (.t 4)
 (.seq
 (.reg false [2] [oQ 5 (.mov (.t 0)),
 oQ 6 (.un .neg (.t 5)),
 oX 7 (.call 99 [(.t 6)]),
 oQ 8 (.bin .add (.k (.d (.str [45]))) (.t 7)),
 oQ 2 (.mov (.t 8))])
 .ret)
 .skip))
 (.seq
 (.seq
 (.reg false [0,10] [oQ 9 (.mov (.t 0)),
 oQ 10 (.bin .lss (.t 9) (kI 10))])
 (.cond (.t 10)
 (.seq
 (.reg false [2] [oQ 11 (.mov (.t 0)),
 oQ 12 (.mov (.t 0)),
 oQ 13 (.bin .add (.t 12) (kI 1)),
 oQ 14 (.sls (.k (.d (.str [48,49,50,51,52,53,54,55,56,57]))) (some (.t 11)) (some (.t 13))),
 oQ 2 (.mov (.t 14))])
 .ret)
 .skip))
 (.seq
 (.reg true [2] [oQ 15 (.mov (.t 0)),
 oQ 16 (.bin .quo (.t 15) (kI 10)),
 oQ 17 (.callP 99 [(.t 16)]),
 oQ 18 (.mov (.t 0)),
 oQ 19 (.bin .rem (.t 18) (kI 10)),
 oQ 20 (.mov (.t 0)),
 oQ 21 (.bin .rem (.t 20) (kI 10)),
 oQ 22 (.bin .add (.t 21) (kI 1)),
 oQ 23 (.sls (.k (.d (.str [48,49,50,51,52,53,54,55,56,57]))) (some (.t 19)) (some (.t 22))),
 oQ 24 (.bin .add (.t 17) (.t 23)),
 oQ 2 (.mov (.t 24))])
 .ret))))
theorem c99:(Go.Proofs.Tryz.f99).body.bind (comp prog.P (1,(Go.Proofs.Tryz.f99).ntmps) aQv)=some m99:=by kernel_rfl
theorem r99:b6 prog.P (Go.Proofs.Tryz.f99).results.toList=true:=by kernel_rfl
def aPi:List (Nat×List Nat):=[(0,[0,2]),(1,[0])]
def aOV:MC :=
 (.seq
 (.reg false [0,2] [oQ 3 (.mov (.t 0)),
 oQ 4 (.len false (.t 3)),
 oQ 2 (.mov (.t 4))])
 (.reg false [0] [oQ 5 (.mov (.t 0)),
 oQ 6 (.mov (.t 2)),
 oQ 7 (.mov (.t 2)),
 oQ 8 (.conv .u64 (.t 7)),
 oX 9 (.call 119 [(.t 8)]),
 oX 10 (.call 118 [(.t 5),(kI 0),(.t 6),(.t 9)])]))
theorem aRf:(Go.Proofs.Tryz.f103).body.bind (comp prog.P (1,(Go.Proofs.Tryz.f103).ntmps) aPi)=some aOV:=by kernel_rfl
theorem aQz:b6 prog.P (Go.Proofs.Tryz.f103).results.toList=true:=by kernel_rfl
def aPx:List (Nat×List Nat):=[(0,[0,1]),(1,[0,1,5]),(2,[0,1,5,19]),(3,[0,4]),(4,[0,1,5,21]),(5,[0,1,5,25]),(6,[0,4]),(7,[0,1]),(8,[0,1,5,21,46]),(9,[0,1]),(10,[0,1,5,55]),(11,[0,1]),(12,[0]),(13,[0,4]),(1000007,[1,20,1,0,1,1,1,2,1,3,1,4,1,5,1,6,1,10,1,11,1,12,1,13,2,7,1,8,1,9,2,14,1,15,2,16,2,17,1,18,1,19,2,20,0])]
def aO1:MC :=
 (.seq
 (.reg false [0,1] [oQ 4 (.mov (kB false))])
 (.seq
 (.reg false [0,1,5] [oQ 6 (.mov (.t 0)),
 oQ 7 (.nck (.t 6)),
 oQ 8 (.fa 1 1 (.t 7)),
 oQ 9 (.ld none (.t 8)),
 oQ 10 (.mov (.t 1)),
 oQ 11 (.ia 4 (.t 9) (.t 10)),
 oQ 12 (.ld (some 4) (.t 11)),
 oX 5 (.alloc (.st (.cons (.int .i64 0) (.cons (.int .i64 0) (.cons (.int .i64 0) (.cons (.sl true 1 .nil) .nil)))))),
 oN (.st 4 (.t 5) (.t 12))])
 (.seq
 (.seq
 (.reg true [0,1,5,19] [oQ 13 (.fa 2 2 (.t 5)),
 oQ 14 (.ld none (.t 13)),
 oQ 15 (.mov (.t 0)),
 oQ 16 (.nck (.t 15)),
 oQ 17 (.fa 0 0 (.t 16)),
 oQ 18 (.ld none (.t 17)),
 oQ 19 (.bin .gtr (.t 14) (.t 18))])
 (.cond (.t 19)
 (.seq
 (.reg false [0,4] [oQ 4 (.mov (kB false))])
 .ret)
 .skip))
 (.seq
 (.seq
 (.reg false [0,1,5,21] [oQ 20 (.fa 1 1 (.t 5)),
 oQ 21 (.ld none (.t 20))])
 (.block 0
 (.seq
 (.reg false [0,1,5,21,46] [oQ 47 (.bin .eql (.t 21) (kI 1)),
 oQ 46 (.mov (.t 47))])
 (.cond (.t 46)
 (.reg false [0,1] [oQ 48 (.mov (.t 0)),
 oQ 49 (.nck (.t 48)),
 oQ 50 (.fa 2 2 (.t 49)),
 oQ 51 (.ld none (.t 50)),
 oQ 52 (.bin .add (.t 51) (kI 1)),
 oQ 53 (.nck (.t 48)),
 oQ 54 (.fa 2 2 (.t 53)),
 oN (.st 1 (.t 54) (.t 52))])
 (.seq
 (.reg false [0,1,5,55] [oQ 56 (.bin .eql (.t 21) (kI 2)),
 oQ 55 (.mov (.t 56))])
 (.cond (.t 55)
 (.reg false [0,1] [oQ 57 (.mov (.t 0)),
 oQ 58 (.nck (.t 57)),
 oQ 59 (.fa 3 3 (.t 58)),
 oQ 60 (.ld none (.t 59)),
 oQ 61 (.bin .add (.t 60) (kI 1)),
 oQ 62 (.nck (.t 57)),
 oQ 63 (.fa 3 3 (.t 62)),
 oN (.st 1 (.t 63) (.t 61))])
 (.seq
 (.seq
 (.reg false [0,1,5,25] [oQ 22 (.fa 3 3 (.t 5)),
 oQ 23 (.ld none (.t 22)),
 oQ 24 (.len false (.t 23)),
 oQ 25 (.bin .gtr (.t 24) (kI 0))])
 (.cond (.t 25)
 (.seq
 (.reg false [0,4] [oQ 4 (.mov (kB false))])
 .ret)
 .skip))
 (.any [20] [0,1] (.q 0 (oQ 26 (.mov (.t 0))) (.q 1 (oQ 27 (.mov (.t 0))) (.q 2 (oQ 28 (.nck (.t 27))) (.q 3 (oQ 29 (.fa 4 4 (.t 28))) (.q 4 (oQ 30 (.ld none (.t 29))) (.q 5 (oQ 31 (.fa 0 0 (.t 5))) (.q 6 (oQ 32 (.ld none (.t 31))) (.q 10 (oQ 36 (.mov (.t 0))) (.q 11 (oQ 37 (.nck (.t 36))) (.q 12 (oQ 38 (.fa 0 0 (.t 37))) (.q 13 (oQ 39 (.ld none (.t 38))) (.e 7 (oX 33 (.call 97 [(.t 32)])) (.q 8 (oQ 34 (.bin .add (.k (.d (.str [114]))) (.t 33))) (.q 9 (oQ 35 (.bin .add (.t 34) (.k (.d (.str [32,100]))))) (.e 14 (oX 40 (.call 97 [(.t 39)])) (.q 15 (oQ 41 (.bin .add (.t 35) (.t 40))) (.e 16 (oX 42 (.bs 1 1 (.str []) [(0,(.t 41))])) (.e 17 (oX 43 (.app 1 16 (.t 30) (.t 42))) (.q 18 (oQ 44 (.nck (.t 26))) (.q 19 (oQ 45 (.fa 4 4 (.t 44))) (.e 20 (oN (.st 1 (.t 45) (.t 43))) .done)))))))))))))))))))))))))))))
 (.seq
 (.reg false [0] [oQ 64 (.mov (.t 0)),
 oQ 65 (.mov (.t 0)),
 oQ 66 (.nck (.t 65)),
 oQ 67 (.fa 1 1 (.t 66)),
 oQ 68 (.ld none (.t 67)),
 oQ 69 (.mov (.t 1)),
 oQ 70 (.mov (.t 1)),
 oQ 71 (.bin .add (.t 70) (kI 1)),
 oX 72 (.call 120 [(.t 68),(.t 69),(.t 71)]),
 oQ 73 (.nck (.t 64)),
 oQ 74 (.fa 1 1 (.t 73)),
 oN (.st 1 (.t 74) (.t 72))])
 (.seq
 (.reg false [0,4] [oQ 4 (.mov (kB true))])
 .ret))))))
theorem aRu:(Go.Proofs.Tryz.f104).body.bind (comp prog.P (2,(Go.Proofs.Tryz.f104).ntmps) aPx)=some aO1:=by kernel_rfl
theorem aR6:b6 prog.P (Go.Proofs.Tryz.f104).results.toList=true:=by kernel_rfl
def aOY:List (Nat×List Nat):=[(0,[0]),(1,[0,3]),(2,[0,3,8]),(3,[0,3]),(4,[0,3,4]),(5,[0,3,33]),(6,[2]),(7,[2])]
def aPc:MC :=
 (.seq
 (.reg false [0] [oQ 2 (.mov (kB false))])
 (.seq
 (.seq
 (.reg false [0,3] [oQ 3 (.mov (kI 0))])
 (.block 0
 (.loop
 (.seq
 (.seq
 (.reg false [0,3,8] [oQ 5 (.mov (.t 3)),
 oQ 6 (.mov (.t 0)),
 oQ 7 (.len true (.t 6)),
 oQ 8 (.bin .lss (.t 5) (.t 7))])
 (.cond (.t 8)
 .skip
 (.exit 0)))
 (.seq
 (.block 1
 (.seq
 (.reg false [0,3,4] [oQ 11 (.mov (.t 0)),
 oQ 12 (.mov (.t 3)),
 oQ 13 (.ix (.t 11) (.t 12)),
 oQ 4 (.mov (.t 13))])
 (.seq
 (.reg false [0,3,33] [oQ 14 (.mov (.t 4)),
 oX 15 (.call 121 [(.t 14)]),
 oQ 16 (.un .not (.t 15)),
 oQ 17 (.mov (.t 16)),
 oG 18 17 true (.mov (.t 4)),
 oG 19 17 true (.bin .geq (.t 18) (.k (.d (.int .u8 48)))),
 oG 20 17 true (.mov (.t 19)),
 oG 21 20 true (.mov (.t 4)),
 oG 22 20 true (.bin .leq (.t 21) (.k (.d (.int .u8 57)))),
 oG 23 17 true (.pick (.t 20) (.t 22) (kB false)),
 oG 24 17 true (.un .not (.t 23)),
 oQ 25 (.pick (.t 17) (.t 24) (kB false)),
 oQ 26 (.mov (.t 25)),
 oG 27 26 true (.mov (.t 4)),
 oG 28 26 true (.bin .neq (.t 27) (.k (.d (.int .u8 32)))),
 oQ 29 (.pick (.t 26) (.t 28) (kB false)),
 oQ 30 (.mov (.t 29)),
 oG 31 30 true (.mov (.t 4)),
 oG 32 30 true (.bin .neq (.t 31) (.k (.d (.int .u8 45)))),
 oQ 33 (.pick (.t 30) (.t 32) (kB false))])
 (.cond (.t 33)
 (.seq
 (.reg false [2] [oQ 2 (.mov (kB false))])
 .ret)
 .skip))))
 (.reg false [0,3] [oQ 9 (.mov (.t 3)),
 oQ 10 (.bin .add (.t 9) (kI 1)),
 oQ 3 (.mov (.t 10))]))))))
 (.seq
 (.reg false [2] [oQ 34 (.mov (.t 0)),
 oQ 35 (.len true (.t 34)),
 oX 36 (.call 60 [(.t 35),(kI 1),(kI 40)]),
 oQ 2 (.mov (.t 36))])
 .ret)))
theorem aQ1:(Go.Proofs.Tryz.f105).body.bind (comp prog.P (1,(Go.Proofs.Tryz.f105).ntmps) aOY)=some aPc:=by kernel_rfl
theorem aRG:b6 prog.P (Go.Proofs.Tryz.f105).results.toList=true:=by kernel_rfl
def aOE:List (Nat×List Nat):=[(0,[0,1,2]),(1,[0,1,2,7]),(2,[0,1,2,7,11]),(3,[0,1,2,7]),(4,[0,1,2,7,37]),(5,[6]),(6,[6])]
def aOZ:MC :=
 (.seq
 (.reg false [0,1,2] [oQ 6 (.mov (kB false))])
 (.seq
 (.seq
 (.reg false [0,1,2,7] [oQ 7 (.mov (kI 0))])
 (.block 0
 (.loop
 (.seq
 (.seq
 (.reg false [0,1,2,7,11] [oQ 8 (.mov (.t 7)),
 oQ 9 (.mov (.t 0)),
 oQ 10 (.len false (.t 9)),
 oQ 11 (.bin .lss (.t 8) (.t 10))])
 (.cond (.t 11)
 .skip
 (.exit 0)))
 (.seq
 (.block 1
 (.seq
 (.reg true [0,1,2,7,37] [oQ 14 (.mov (.t 0)),
 oQ 15 (.mov (.t 7)),
 oQ 16 (.ia 1 (.t 14) (.t 15)),
 oQ 17 (.ld none (.t 16)),
 oQ 18 (.mov (.t 1)),
 oQ 19 (.mov (.t 2)),
 oQ 20 (.callP 60 [(.t 17),(.t 18),(.t 19)]),
 oQ 21 (.un .not (.t 20)),
 oQ 22 (.mov (.t 21)),
 oG 23 22 false (.mov (.t 7)),
 oG 24 22 false (.bin .gtr (.t 23) (kI 0)),
 oG 25 22 false (.mov (.t 24)),
 oG 26 25 true (.mov (.t 0)),
 oG 27 25 true (.mov (.t 7)),
 oG 28 25 true (.bin .sub (.t 27) (kI 1)),
 oG 29 25 true (.ia 1 (.t 26) (.t 28)),
 oG 30 25 true (.ld none (.t 29)),
 oG 31 25 true (.mov (.t 0)),
 oG 32 25 true (.mov (.t 7)),
 oG 33 25 true (.ia 1 (.t 31) (.t 32)),
 oG 34 25 true (.ld none (.t 33)),
 oG 35 25 true (.bin .geq (.t 30) (.t 34)),
 oG 36 22 false (.pick (.t 25) (.t 35) (kB false)),
 oQ 37 (.pick (.t 22) (kB true) (.t 36))])
 (.cond (.t 37)
 (.seq
 (.reg false [6] [oQ 6 (.mov (kB false))])
 .ret)
 .skip)))
 (.reg false [0,1,2,7] [oQ 12 (.mov (.t 7)),
 oQ 13 (.bin .add (.t 12) (kI 1)),
 oQ 7 (.mov (.t 13))]))))))
 (.seq
 (.reg false [6] [oQ 6 (.mov (kB true))])
 .ret)))
theorem aQ4:(Go.Proofs.Tryz.f106).body.bind (comp prog.P (3,(Go.Proofs.Tryz.f106).ntmps) aOE)=some aOZ:=by kernel_rfl
theorem aQb:b6 prog.P (Go.Proofs.Tryz.f106).results.toList=true:=by kernel_rfl
def aOt:List (Nat×List Nat):=[(0,[0,1]),(1,[0,1,7,8]),(2,[0,1,7,8,9]),(3,[0,1,5,7,8]),(4,[0,1,5,7,8,16]),(5,[4]),(6,[0,1,7,8]),(7,[4])]
def aNY:MC :=
 (.seq
 (.reg false [0,1] [oQ 4 (.mov (kI 0))])
 (.seq
 (.seq
 (.reg false [0,1,7,8] [oQ 6 (.mov (.t 0)),
 oQ 7 (.len false (.t 6)),
 oQ 8 (.mov (kI 0))])
 (.block 0
 (.loop
 (.seq
 (.reg false [0,1,7,8,9] [oQ 9 (.bin .lss (.t 8) (.t 7))])
 (.seq
 (.cond (.t 9)
 .skip
 (.exit 0))
 (.seq
 (.block 1
 (.seq
 (.reg false [0,1,5,7,8] [oQ 10 (.mov (.t 8)),
 oQ 5 (.mov (.t 10))])
 (.seq
 (.reg false [0,1,5,7,8,16] [oQ 11 (.mov (.t 1)),
 oQ 12 (.mov (.t 0)),
 oQ 13 (.mov (.t 5)),
 oQ 14 (.ia 1 (.t 12) (.t 13)),
 oQ 15 (.ld none (.t 14)),
 oX 16 (.callW (.t 11) [(.t 15)])])
 (.cond (.t 16)
 (.seq
 (.reg false [4] [oQ 17 (.mov (.t 5)),
 oQ 4 (.mov (.t 17))])
 .ret)
 .skip))))
 (.reg false [0,1,7,8] [oQ 18 (.bin .add (.t 8) (kI 1)),
 oQ 8 (.mov (.t 18))])))))))
 (.seq
 (.reg false [4] [oQ 4 (.mov (.k (.d (.int .i64 (-1)))))])
 .ret)))
theorem aSN:(Go.Proofs.Tryz.f107).body.bind (comp prog.P (2,(Go.Proofs.Tryz.f107).ntmps) aOt)=some aNY:=by kernel_rfl
theorem aSa:b6 prog.P (Go.Proofs.Tryz.f107).results.toList=true:=by kernel_rfl
def aOg:List (Nat×List Nat):=[(0,[0,1]),(1,[0,1,12]),(2,[4]),(3,[0,1,21]),(4,[4]),(5,[0,1,5,6]),(6,[0,1,5,34]),(7,[4]),(8,[4])]
def aPA:MC :=
 (.seq
 (.reg false [0,1] [oQ 4 (.mov (.k (.d (.str []))))])
 (.seq
 (.seq
 (.reg false [0,1,12] [oQ 7 (.mov (.t 0)),
 oQ 8 (.bin .eql (.t 7) (.k (.d (.str [])))),
 oQ 9 (.mov (.t 8)),
 oG 10 9 false (.mov (.t 1)),
 oG 11 9 false (.bin .eql (.t 10) (.k (.d (.str [])))),
 oQ 12 (.pick (.t 9) (kB true) (.t 11))])
 (.cond (.t 12)
 (.seq
 (.reg false [4] [oQ 13 (.mov (.t 0)),
 oQ 4 (.mov (.t 13))])
 .ret)
 .skip))
 (.seq
 (.seq
 (.reg false [0,1,21] [oQ 14 (.mov (.t 1)),
 oQ 15 (.len true (.t 14)),
 oQ 16 (.bin .eql (.t 15) (kI 1)),
 oQ 17 (.mov (.t 16)),
 oG 18 17 true (.mov (.t 1)),
 oG 19 17 true (.ix (.t 18) (kI 0)),
 oG 20 17 true (.bin .lss (.t 19) (.k (.d (.int .u8 128)))),
 oQ 21 (.pick (.t 17) (.t 20) (kB false))])
 (.cond (.t 21)
 (.seq
 (.reg true [4] [oQ 22 (.mov (.t 0)),
 oQ 23 (.mov (.t 1)),
 oQ 24 (.ix (.t 23) (kI 0)),
 oQ 25 (.callP 123 [(.t 22),(.t 24)]),
 oQ 26 (.mov (.t 1)),
 oQ 27 (.ix (.t 26) (kI 0)),
 oQ 28 (.callP 122 [(.t 25),(.t 27)]),
 oQ 4 (.mov (.t 28))])
 .ret)
 .skip))
 (.seq
 (.seq
 (.reg false [0,1,5,6] [oQ 30 (.mov (.t 1)),
 oX 31 (.call 124 [(.t 30)]),
 oQ 29 (.mov (.t 31)),
 oQ 32 (.ext (.t 29) 0),
 oQ 33 (.ext (.t 29) 1),
 oX 5 (.alloc (.st (iM (List.replicate 256 (.bool false))))),
 oN (.st 256 (.t 5) (.t 32)),
 oQ 6 (.mov (.t 33))])
 (.seq
 (.reg false [0,1,5,34] [oQ 34 (.mov (.t 6))])
 (.cond (.t 34)
 (.seq
 (.reg false [4] [oQ 35 (.mov (.t 0)),
 oX 36 (.call 126 [(.t 35),(.t 5)]),
 oX 37 (.call 125 [(.t 36),(.t 5)]),
 oQ 4 (.mov (.t 37))])
 .ret)
 .skip)))
 (.seq
 (.reg false [4] [oQ 38 (.mov (.t 0)),
 oQ 39 (.mov (.t 1)),
 oX 40 (.call 128 [(.t 38),(.t 39)]),
 oQ 41 (.mov (.t 1)),
 oX 42 (.call 127 [(.t 40),(.t 41)]),
 oQ 4 (.mov (.t 42))])
 .ret)))))
theorem aQM:(Go.Proofs.Tryz.f108).body.bind (comp prog.P (2,(Go.Proofs.Tryz.f108).ntmps) aOg)=some aPA:=by kernel_rfl
theorem aQL:b6 prog.P (Go.Proofs.Tryz.f108).results.toList=true:=by kernel_rfl
def aOI:List (Nat×List Nat):=[(0,[0,1]),(1,[0,1,7,8]),(2,[0,1,7,8,9]),(3,[0,1,5,7,8]),(4,[0,1,5,7,8,16]),(5,[4]),(6,[0,1,7,8]),(7,[4])]
def aOJ:MC :=
 (.seq
 (.reg false [0,1] [oQ 4 (.mov (kI 0))])
 (.seq
 (.seq
 (.reg false [0,1,7,8] [oQ 6 (.mov (.t 0)),
 oQ 7 (.len false (.t 6)),
 oQ 8 (.mov (kI 0))])
 (.block 0
 (.loop
 (.seq
 (.reg false [0,1,7,8,9] [oQ 9 (.bin .lss (.t 8) (.t 7))])
 (.seq
 (.cond (.t 9)
 .skip
 (.exit 0))
 (.seq
 (.block 1
 (.seq
 (.reg false [0,1,5,7,8] [oQ 10 (.mov (.t 8)),
 oQ 5 (.mov (.t 10))])
 (.seq
 (.reg false [0,1,5,7,8,16] [oQ 11 (.mov (.t 1)),
 oQ 12 (.mov (.t 0)),
 oQ 13 (.mov (.t 5)),
 oQ 14 (.ia 1 (.t 12) (.t 13)),
 oQ 15 (.ld none (.t 14)),
 oX 16 (.callW (.t 11) [(.t 15)])])
 (.cond (.t 16)
 (.seq
 (.reg false [4] [oQ 17 (.mov (.t 5)),
 oQ 4 (.mov (.t 17))])
 .ret)
 .skip))))
 (.reg false [0,1,7,8] [oQ 18 (.bin .add (.t 8) (kI 1)),
 oQ 8 (.mov (.t 18))])))))))
 (.seq
 (.reg false [4] [oQ 4 (.mov (.k (.d (.int .i64 (-1)))))])
 .ret)))
theorem aQq:(Go.Proofs.Tryz.f109).body.bind (comp prog.P (2,(Go.Proofs.Tryz.f109).ntmps) aOI)=some aOJ:=by kernel_rfl
theorem aQC:b6 prog.P (Go.Proofs.Tryz.f109).results.toList=true:=by kernel_rfl
def aOG:List (Nat×List Nat):=[(0,[0]),(1,[3]),(2,[2])]
def aOD:MC :=
 (.seq
 (.reg false [0] [oQ 2 (.mov (kI 0))])
 (.seq
 (.reg false [3] [oQ 6 (.mov (.t 0)),
 oQ 7 (.bin .add (.k (.d (.str [108]))) (.t 6)),
 oX 8 (.call 129 [(.t 7)]),
 oQ 5 (.mov (.t 8)),
 oQ 9 (.ext (.t 5) 0),
 oQ 10 (.ext (.t 5) 1),
 oQ 3 (.mov (.t 9)),
 oQ 4 (.mov (.t 10))])
 (.seq
 (.reg false [2] [oQ 11 (.mov (.t 3)),
 oQ 2 (.mov (.t 11))])
 .ret)))
theorem aSi:(Go.Proofs.Tryz.f110).body.bind (comp prog.P (1,(Go.Proofs.Tryz.f110).ntmps) aOG)=some aOD:=by kernel_rfl
theorem aSb:b6 prog.P (Go.Proofs.Tryz.f110).results.toList=true:=by kernel_rfl
def aOe:List (Nat×List Nat):=[(0,[0,1]),(1,[5]),(2,[4])]
def aOz:MC :=
 (.seq
 (.reg false [0,1] [oQ 4 (.mov (kI 0))])
 (.seq
 (.reg false [5] [oQ 8 (.mov (.t 0)),
 oX 9 (.call 97 [(.t 8)]),
 oQ 10 (.bin .add (.k (.d (.str [110]))) (.t 9)),
 oQ 11 (.bin .add (.t 10) (.k (.d (.str [44])))),
 oQ 12 (.mov (.t 1)),
 oX 13 (.call 97 [(.t 12)]),
 oQ 14 (.bin .add (.t 11) (.t 13)),
 oX 15 (.call 129 [(.t 14)]),
 oQ 7 (.mov (.t 15)),
 oQ 16 (.ext (.t 7) 0),
 oQ 17 (.ext (.t 7) 1),
 oQ 5 (.mov (.t 16)),
 oQ 6 (.mov (.t 17))])
 (.seq
 (.reg false [4] [oQ 18 (.mov (.t 5)),
 oQ 4 (.mov (.t 18))])
 .ret)))
theorem aRJ:(Go.Proofs.Tryz.f112).body.bind (comp prog.P (2,(Go.Proofs.Tryz.f112).ntmps) aOe)=some aOz:=by kernel_rfl
theorem aRX:b6 prog.P (Go.Proofs.Tryz.f112).results.toList=true:=by kernel_rfl
def aOf:List (Nat×List Nat):=[(0,[0]),(1,[2])]
def aPb:MC :=
 (.seq
 (.reg false [0] [oQ 2 (.mov (kI 0))])
 (.seq
 (.reg false [2] [oQ 3 (.mov (.t 0)),
 oQ 4 (.bin .add (.k (.d (.str [108]))) (.t 3)),
 oX 5 (.call 131 [(.t 4)]),
 oQ 2 (.mov (.t 5))])
 .ret))
theorem aR4:(Go.Proofs.Tryz.f113).body.bind (comp prog.P (1,(Go.Proofs.Tryz.f113).ntmps) aOf)=some aPb:=by kernel_rfl
theorem aSe:b6 prog.P (Go.Proofs.Tryz.f113).results.toList=true:=by kernel_rfl
def aPn:List (Nat×List Nat):=[(0,[0,1]),(1,[4])]
def aOh:MC :=
 (.seq
 (.reg false [0,1] [oQ 4 (.mov (kI 0))])
 (.seq
 (.reg false [4] [oQ 5 (.mov (.t 0)),
 oX 6 (.call 99 [(.t 5)]),
 oQ 7 (.bin .add (.k (.d (.str [110]))) (.t 6)),
 oQ 8 (.bin .add (.t 7) (.k (.d (.str [44])))),
 oQ 9 (.mov (.t 1)),
 oX 10 (.call 99 [(.t 9)]),
 oQ 11 (.bin .add (.t 8) (.t 10)),
 oX 12 (.call 131 [(.t 11)]),
 oQ 4 (.mov (.t 12))])
 .ret))
theorem aSB:(Go.Proofs.Tryz.f114).body.bind (comp prog.P (2,(Go.Proofs.Tryz.f114).ntmps) aPn)=some aOh:=by kernel_rfl
theorem aQA:b6 prog.P (Go.Proofs.Tryz.f114).results.toList=true:=by kernel_rfl
end Go.Pe.Tryz
