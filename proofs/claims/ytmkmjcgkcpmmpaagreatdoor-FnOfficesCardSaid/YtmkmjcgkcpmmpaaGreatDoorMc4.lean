/-
The compact code of the functions that the law reaches,printed by gen.py,each with the proof that the machine's code is compiled to it.
-/
import Derived.Test.YtmkmjcgkcpmmpaaGreatDoorMc1
import Derived.Test.YtmkmjcgkcpmmpaaGreatDoorProg
import Derived.KernelRfl
set_option maxRecDepth 100000
namespace Go.Pe.Tryz
open Go.Pe
def aNJ:List (Nat×List Nat):=[(0,[1,2,4]),(1,[1,2,4,6,7]),(2,[2,4,6,7]),(3,[2,4,6,7,29]),(4,[2,4,6,7]),(5,[4,5]),(6,[2,4,6,7,29,60]),(7,[2,4,6,7]),(8,[2,4,6,7,66]),(9,[2,4,6,7]),(10,[4,5]),(1000001,[0,1,2,1,3,1,4,1,5,1,6,3,2,0,3,2,1,3,2,7,2,8,2,9,2,10,0,2,8,2,7,2,9,2,10,0,3,2,7,3,2,1,2,8,2,9,2,10,0,2,8,2,1,2,9,2,10,0,2,8,3,2,1,2,7,2,9,2,10,0,2,7,2,1,2,9,2,10,0,3,2,7,3,2,0,3,2,1,2,8,2,9,2,10,0,2,8,2,1,2,9,2,10,0,2,8,2,0,2,1,2,9,2,10,0,2,8,3,2,0,3,2,1,2,7,2,9,2,10,0,2,7,2,1,2,9,2,10,0,2,7,2,0,2,1,2,9,2,10,0]),(1000002,[1,13,1,1,1,2,1,3,1,4,1,6,1,7,1,8,1,9,1,10,2,0,2,5,2,11,1,12,2,13,0]),(1000004,[1,14,1,0,1,1,1,2,1,3,1,7,1,8,2,4,1,5,1,6,2,9,1,10,2,11,2,12,1,13,2,14,0]),(1000005,[2,16,17,1,1,1,3,3,2,0,3,2,2,2,4,1,5,1,6,1,7,2,8,1,9,1,10,1,11,1,12,2,13,2,14,1,15,2,16,2,17,0,2,4,2,2,1,5,1,6,1,7,2,8,1,9,1,10,1,11,1,12,2,13,2,14,1,15,2,16,2,17,0,3,2,2,3,2,0,2,4,1,5,1,6,1,7,2,8,1,9,1,10,1,11,1,12,2,13,2,14,1,15,2,16,2,17,0,2,4,1,5,1,6,1,7,3,2,0,2,8,1,9,1,10,1,11,1,12,2,13,2,14,1,15,2,16,2,17,0,2,8,1,9,1,10,1,11,1,12,3,2,0,2,13,2,14,1,15,2,16,2,17,0,2,13,3,2,0,2,14,1,15,2,16,2,17,0,2,14,1,15,2,0,2,16,2,17,0,2,4,3,2,0,2,2,1,5,1,6,1,7,2,8,1,9,1,10,1,11,1,12,2,13,2,14,1,15,2,16,2,17,0,2,2,1,5,1,6,1,7,3,2,0,2,8,1,9,1,10,1,11,1,12,2,13,2,14,1,15,2,16,2,17,0,2,8,1,9,1,10,1,11,1,12,3,2,0,2,13,2,14,1,15,2,16,2,17,0,2,13,3,2,0,2,14,1,15,2,16,2,17,0,2,14,1,15,2,0,2,16,2,17,0]),(1000010,[2,10,11,1,1,1,3,3,2,0,3,2,2,2,4,1,5,1,6,2,7,2,8,1,9,2,10,2,11,0,2,4,2,2,1,5,1,6,2,7,2,8,1,9,2,10,2,11,0,3,2,2,3,2,0,2,4,1,5,1,6,2,7,2,8,1,9,2,10,2,11,0,2,4,1,5,1,6,3,2,0,2,7,2,8,1,9,2,10,2,11,0,2,7,3,2,0,2,8,1,9,2,10,2,11,0,2,8,1,9,2,0,2,10,2,11,0,2,4,3,2,0,2,2,1,5,1,6,2,7,2,8,1,9,2,10,2,11,0,2,2,1,5,1,6,3,2,0,2,7,2,8,1,9,2,10,2,11,0,2,7,3,2,0,2,8,1,9,2,10,2,11,0,2,8,1,9,2,0,2,10,2,11,0])]
def m79:MC :=
 (.seq
 (.reg false [1,2,4] [oX 2 (.box (.t 0)),
 oX 4 (.alloc (.st (.cons (.int .i64 0) (.cons (.sl true 4 .nil) (.cons (.int .i64 0) (.cons (.int .i64 0) (.cons (.sl true 1 .nil) .nil))))))),
 oQ 5 (.mov (kB false))])
 (.seq
 (.any [] [1,2,4,6,7] (.q 2 (oQ 10 (.fa 1 1 (.t 2))) (.q 3 (oQ 11 (.ld none (.t 10))) (.q 4 (oQ 12 (.mov (.t 1))) (.q 5 (oQ 13 (.ia 4 (.t 11) (.t 12))) (.q 6 (oQ 14 (.ld (some 4) (.t 13))) (.br (.e 0 (oQ 8 (.ldv 5 (.t 2))) (.br (.e 1 (oX 9 (.call 52 [(.t 8)])) (.br (.e 7 (oX 6 (.alloc (.st (.cons (.int .i64 0) (.cons (.sl true 4 .nil) (.cons (.int .i64 0) (.cons (.int .i64 0) (.cons (.sl true 1 .nil) .nil)))))))) (.e 8 (oX 7 (.alloc (.st (.cons (.int .i64 0) (.cons (.int .i64 0) (.cons (.int .i64 0) (.cons (.sl true 1 .nil) .nil))))))) (.e 9 (oN (.st 5 (.t 6) (.t 9))) (.e 10 (oN (.st 4 (.t 7) (.t 14))) .done))))
 (.e 8 (oX 7 (.alloc (.st (.cons (.int .i64 0) (.cons (.int .i64 0) (.cons (.int .i64 0) (.cons (.sl true 1 .nil) .nil))))))) (.e 7 (oX 6 (.alloc (.st (.cons (.int .i64 0) (.cons (.sl true 4 .nil) (.cons (.int .i64 0) (.cons (.int .i64 0) (.cons (.sl true 1 .nil) .nil)))))))) (.e 9 (oN (.st 5 (.t 6) (.t 9))) (.e 10 (oN (.st 4 (.t 7) (.t 14))) .done))))))
 (.br (.e 7 (oX 6 (.alloc (.st (.cons (.int .i64 0) (.cons (.sl true 4 .nil) (.cons (.int .i64 0) (.cons (.int .i64 0) (.cons (.sl true 1 .nil) .nil)))))))) (.br (.e 1 (oX 9 (.call 52 [(.t 8)])) (.e 8 (oX 7 (.alloc (.st (.cons (.int .i64 0) (.cons (.int .i64 0) (.cons (.int .i64 0) (.cons (.sl true 1 .nil) .nil))))))) (.e 9 (oN (.st 5 (.t 6) (.t 9))) (.e 10 (oN (.st 4 (.t 7) (.t 14))) .done))))
 (.e 8 (oX 7 (.alloc (.st (.cons (.int .i64 0) (.cons (.int .i64 0) (.cons (.int .i64 0) (.cons (.sl true 1 .nil) .nil))))))) (.e 1 (oX 9 (.call 52 [(.t 8)])) (.e 9 (oN (.st 5 (.t 6) (.t 9))) (.e 10 (oN (.st 4 (.t 7) (.t 14))) .done))))))
 (.e 8 (oX 7 (.alloc (.st (.cons (.int .i64 0) (.cons (.int .i64 0) (.cons (.int .i64 0) (.cons (.sl true 1 .nil) .nil))))))) (.br (.e 1 (oX 9 (.call 52 [(.t 8)])) (.e 7 (oX 6 (.alloc (.st (.cons (.int .i64 0) (.cons (.sl true 4 .nil) (.cons (.int .i64 0) (.cons (.int .i64 0) (.cons (.sl true 1 .nil) .nil)))))))) (.e 9 (oN (.st 5 (.t 6) (.t 9))) (.e 10 (oN (.st 4 (.t 7) (.t 14))) .done))))
 (.e 7 (oX 6 (.alloc (.st (.cons (.int .i64 0) (.cons (.sl true 4 .nil) (.cons (.int .i64 0) (.cons (.int .i64 0) (.cons (.sl true 1 .nil) .nil)))))))) (.e 1 (oX 9 (.call 52 [(.t 8)])) (.e 9 (oN (.st 5 (.t 6) (.t 9))) (.e 10 (oN (.st 4 (.t 7) (.t 14))) .done)))))))))
 (.br (.e 7 (oX 6 (.alloc (.st (.cons (.int .i64 0) (.cons (.sl true 4 .nil) (.cons (.int .i64 0) (.cons (.int .i64 0) (.cons (.sl true 1 .nil) .nil)))))))) (.br (.e 0 (oQ 8 (.ldv 5 (.t 2))) (.br (.e 1 (oX 9 (.call 52 [(.t 8)])) (.e 8 (oX 7 (.alloc (.st (.cons (.int .i64 0) (.cons (.int .i64 0) (.cons (.int .i64 0) (.cons (.sl true 1 .nil) .nil))))))) (.e 9 (oN (.st 5 (.t 6) (.t 9))) (.e 10 (oN (.st 4 (.t 7) (.t 14))) .done))))
 (.e 8 (oX 7 (.alloc (.st (.cons (.int .i64 0) (.cons (.int .i64 0) (.cons (.int .i64 0) (.cons (.sl true 1 .nil) .nil))))))) (.e 1 (oX 9 (.call 52 [(.t 8)])) (.e 9 (oN (.st 5 (.t 6) (.t 9))) (.e 10 (oN (.st 4 (.t 7) (.t 14))) .done))))))
 (.e 8 (oX 7 (.alloc (.st (.cons (.int .i64 0) (.cons (.int .i64 0) (.cons (.int .i64 0) (.cons (.sl true 1 .nil) .nil))))))) (.e 0 (oQ 8 (.ldv 5 (.t 2))) (.e 1 (oX 9 (.call 52 [(.t 8)])) (.e 9 (oN (.st 5 (.t 6) (.t 9))) (.e 10 (oN (.st 4 (.t 7) (.t 14))) .done)))))))
 (.e 8 (oX 7 (.alloc (.st (.cons (.int .i64 0) (.cons (.int .i64 0) (.cons (.int .i64 0) (.cons (.sl true 1 .nil) .nil))))))) (.br (.e 0 (oQ 8 (.ldv 5 (.t 2))) (.br (.e 1 (oX 9 (.call 52 [(.t 8)])) (.e 7 (oX 6 (.alloc (.st (.cons (.int .i64 0) (.cons (.sl true 4 .nil) (.cons (.int .i64 0) (.cons (.int .i64 0) (.cons (.sl true 1 .nil) .nil)))))))) (.e 9 (oN (.st 5 (.t 6) (.t 9))) (.e 10 (oN (.st 4 (.t 7) (.t 14))) .done))))
 (.e 7 (oX 6 (.alloc (.st (.cons (.int .i64 0) (.cons (.sl true 4 .nil) (.cons (.int .i64 0) (.cons (.int .i64 0) (.cons (.sl true 1 .nil) .nil)))))))) (.e 1 (oX 9 (.call 52 [(.t 8)])) (.e 9 (oN (.st 5 (.t 6) (.t 9))) (.e 10 (oN (.st 4 (.t 7) (.t 14))) .done))))))
 (.e 7 (oX 6 (.alloc (.st (.cons (.int .i64 0) (.cons (.sl true 4 .nil) (.cons (.int .i64 0) (.cons (.int .i64 0) (.cons (.sl true 1 .nil) .nil)))))))) (.e 0 (oQ 8 (.ldv 5 (.t 2))) (.e 1 (oX 9 (.call 52 [(.t 8)])) (.e 9 (oN (.st 5 (.t 6) (.t 9))) (.e 10 (oN (.st 4 (.t 7) (.t 14))) .done)))))))))))))))
 (.seq
 (.any [13] [2,4,6,7] (.q 1 (oQ 16 (.fa 1 1 (.t 6))) (.q 2 (oQ 17 (.ld none (.t 16))) (.q 3 (oQ 18 (.mov (.t 1))) (.q 4 (oQ 19 (.slx 4 (.t 17) none (some (.t 18)))) (.q 6 (oQ 21 (.fa 1 1 (.t 6))) (.q 7 (oQ 22 (.ld none (.t 21))) (.q 8 (oQ 23 (.mov (.t 1))) (.q 9 (oQ 24 (.bin .add (.t 23) (kI 1))) (.q 10 (oQ 25 (.slx 4 (.t 22) (some (.t 24)) none)) (.e 0 (oX 15 (.bs 4 0 (.st (.cons (.int .i64 0) (.cons (.int .i64 0) (.cons (.int .i64 0) (.cons (.sl true 1 .nil) .nil))))) [])) (.e 5 (oX 20 (.app 4 48 (.t 15) (.t 19))) (.e 11 (oX 26 (.app 4 48 (.t 20) (.t 25))) (.q 12 (oQ 27 (.fa 1 1 (.t 6))) (.e 13 (oN (.st 1 (.t 27) (.t 26))) .done)))))))))))))))
 (.seq
 (.seq
 (.reg false [2,4,6,7,29] [oQ 28 (.fa 1 1 (.t 7)),
 oQ 29 (.ld none (.t 28))])
 (.block 0
 (.seq
 (.reg false [2,4,6,7,29,60] [oQ 61 (.bin .eql (.t 29) (kI 1)),
 oQ 60 (.mov (.t 61))])
 (.cond (.t 60)
 (.reg false [2,4,6,7] [oQ 62 (.fa 2 2 (.t 2)),
 oQ 63 (.ld none (.t 62)),
 oQ 64 (.bin .add (.t 63) (kI 1)),
 oQ 65 (.fa 2 2 (.t 6)),
 oN (.st 1 (.t 65) (.t 64))])
 (.seq
 (.reg false [2,4,6,7,66] [oQ 67 (.bin .eql (.t 29) (kI 2)),
 oQ 66 (.mov (.t 67))])
 (.cond (.t 66)
 (.reg false [2,4,6,7] [oQ 68 (.fa 3 3 (.t 2)),
 oQ 69 (.ld none (.t 68)),
 oQ 70 (.bin .add (.t 69) (kI 1)),
 oQ 71 (.fa 3 3 (.t 6)),
 oN (.st 1 (.t 71) (.t 70))])
 (.seq
 (.any [14] [2,4,6,7] (.q 0 (oQ 30 (.fa 4 4 (.t 6))) (.q 1 (oQ 31 (.ld none (.t 30))) (.q 2 (oQ 32 (.fa 0 0 (.t 7))) (.q 3 (oQ 33 (.ld none (.t 32))) (.q 7 (oQ 37 (.fa 0 0 (.t 2))) (.q 8 (oQ 38 (.ld none (.t 37))) (.e 4 (oX 34 (.call 99 [(.t 33)])) (.q 5 (oQ 35 (.bin .add (.k (.d (.str [114]))) (.t 34))) (.q 6 (oQ 36 (.bin .add (.t 35) (.k (.d (.str [32,100]))))) (.e 9 (oX 39 (.call 99 [(.t 38)])) (.q 10 (oQ 40 (.bin .add (.t 36) (.t 39))) (.e 11 (oX 41 (.bs 1 1 (.str []) [(0,(.t 40))])) (.e 12 (oX 42 (.app 1 16 (.t 31) (.t 41))) (.q 13 (oQ 43 (.fa 4 4 (.t 6))) (.e 14 (oN (.st 1 (.t 43) (.t 42))) .done))))))))))))))))
 (.seq
 (.any [16,17] [4,5] (.q 1 (oQ 45 (.fa 2 2 (.t 7))) (.q 3 (oQ 47 (.fa 0 0 (.t 2))) (.br (.e 0 (oQ 44 (.ldv 5 (.t 6))) (.br (.e 2 (oQ 46 (.ld none (.t 45))) (.e 4 (oQ 48 (.ld none (.t 47))) (.q 5 (oQ 49 (.bin .leq (.t 46) (.t 48))) (.q 6 (oQ 50 (.mov (.t 49))) (.q 7 (oG 51 50 true (.fa 3 3 (.t 7))) (.e 8 (oG 52 50 true (.ld none (.t 51))) (.q 9 (oG 53 50 true (.len false (.t 52))) (.q 10 (oG 54 50 true (.bin .eql (.t 53) (kI 0))) (.q 11 (oQ 55 (.pick (.t 50) (.t 54) (kB false))) (.q 12 (oQ 56 (.mov (.t 55))) (.e 13 (oG 57 56 true (.ldv 5 (.t 6))) (.e 14 (oH 58 56 true (.call 40 [(.t 57)])) (.q 15 (oQ 59 (.pick (.t 56) (.t 58) (kB false))) (.e 16 (oN (.st 5 (.t 4) (.t 44))) (.e 17 (oQ 5 (.mov (.t 59))) .done)))))))))))))))
 (.e 4 (oQ 48 (.ld none (.t 47))) (.e 2 (oQ 46 (.ld none (.t 45))) (.q 5 (oQ 49 (.bin .leq (.t 46) (.t 48))) (.q 6 (oQ 50 (.mov (.t 49))) (.q 7 (oG 51 50 true (.fa 3 3 (.t 7))) (.e 8 (oG 52 50 true (.ld none (.t 51))) (.q 9 (oG 53 50 true (.len false (.t 52))) (.q 10 (oG 54 50 true (.bin .eql (.t 53) (kI 0))) (.q 11 (oQ 55 (.pick (.t 50) (.t 54) (kB false))) (.q 12 (oQ 56 (.mov (.t 55))) (.e 13 (oG 57 56 true (.ldv 5 (.t 6))) (.e 14 (oH 58 56 true (.call 40 [(.t 57)])) (.q 15 (oQ 59 (.pick (.t 56) (.t 58) (kB false))) (.e 16 (oN (.st 5 (.t 4) (.t 44))) (.e 17 (oQ 5 (.mov (.t 59))) .done)))))))))))))))))
 (.br (.e 2 (oQ 46 (.ld none (.t 45))) (.br (.e 0 (oQ 44 (.ldv 5 (.t 6))) (.e 4 (oQ 48 (.ld none (.t 47))) (.q 5 (oQ 49 (.bin .leq (.t 46) (.t 48))) (.q 6 (oQ 50 (.mov (.t 49))) (.q 7 (oG 51 50 true (.fa 3 3 (.t 7))) (.e 8 (oG 52 50 true (.ld none (.t 51))) (.q 9 (oG 53 50 true (.len false (.t 52))) (.q 10 (oG 54 50 true (.bin .eql (.t 53) (kI 0))) (.q 11 (oQ 55 (.pick (.t 50) (.t 54) (kB false))) (.q 12 (oQ 56 (.mov (.t 55))) (.e 13 (oG 57 56 true (.ldv 5 (.t 6))) (.e 14 (oH 58 56 true (.call 40 [(.t 57)])) (.q 15 (oQ 59 (.pick (.t 56) (.t 58) (kB false))) (.e 16 (oN (.st 5 (.t 4) (.t 44))) (.e 17 (oQ 5 (.mov (.t 59))) .done)))))))))))))))
 (.e 4 (oQ 48 (.ld none (.t 47))) (.q 5 (oQ 49 (.bin .leq (.t 46) (.t 48))) (.q 6 (oQ 50 (.mov (.t 49))) (.q 7 (oG 51 50 true (.fa 3 3 (.t 7))) (.br (.e 0 (oQ 44 (.ldv 5 (.t 6))) (.e 8 (oG 52 50 true (.ld none (.t 51))) (.q 9 (oG 53 50 true (.len false (.t 52))) (.q 10 (oG 54 50 true (.bin .eql (.t 53) (kI 0))) (.q 11 (oQ 55 (.pick (.t 50) (.t 54) (kB false))) (.q 12 (oQ 56 (.mov (.t 55))) (.e 13 (oG 57 56 true (.ldv 5 (.t 6))) (.e 14 (oH 58 56 true (.call 40 [(.t 57)])) (.q 15 (oQ 59 (.pick (.t 56) (.t 58) (kB false))) (.e 16 (oN (.st 5 (.t 4) (.t 44))) (.e 17 (oQ 5 (.mov (.t 59))) .done)))))))))))
 (.e 8 (oG 52 50 true (.ld none (.t 51))) (.q 9 (oG 53 50 true (.len false (.t 52))) (.q 10 (oG 54 50 true (.bin .eql (.t 53) (kI 0))) (.q 11 (oQ 55 (.pick (.t 50) (.t 54) (kB false))) (.q 12 (oQ 56 (.mov (.t 55))) (.br (.e 0 (oQ 44 (.ldv 5 (.t 6))) (.e 13 (oG 57 56 true (.ldv 5 (.t 6))) (.e 14 (oH 58 56 true (.call 40 [(.t 57)])) (.q 15 (oQ 59 (.pick (.t 56) (.t 58) (kB false))) (.e 16 (oN (.st 5 (.t 4) (.t 44))) (.e 17 (oQ 5 (.mov (.t 59))) .done))))))
 (.e 13 (oG 57 56 true (.ldv 5 (.t 6))) (.br (.e 0 (oQ 44 (.ldv 5 (.t 6))) (.e 14 (oH 58 56 true (.call 40 [(.t 57)])) (.q 15 (oQ 59 (.pick (.t 56) (.t 58) (kB false))) (.e 16 (oN (.st 5 (.t 4) (.t 44))) (.e 17 (oQ 5 (.mov (.t 59))) .done)))))
 (.e 14 (oH 58 56 true (.call 40 [(.t 57)])) (.q 15 (oQ 59 (.pick (.t 56) (.t 58) (kB false))) (.e 0 (oQ 44 (.ldv 5 (.t 6))) (.e 16 (oN (.st 5 (.t 4) (.t 44))) (.e 17 (oQ 5 (.mov (.t 59))) .done))))))))))))))))))))
 (.e 4 (oQ 48 (.ld none (.t 47))) (.br (.e 0 (oQ 44 (.ldv 5 (.t 6))) (.e 2 (oQ 46 (.ld none (.t 45))) (.q 5 (oQ 49 (.bin .leq (.t 46) (.t 48))) (.q 6 (oQ 50 (.mov (.t 49))) (.q 7 (oG 51 50 true (.fa 3 3 (.t 7))) (.e 8 (oG 52 50 true (.ld none (.t 51))) (.q 9 (oG 53 50 true (.len false (.t 52))) (.q 10 (oG 54 50 true (.bin .eql (.t 53) (kI 0))) (.q 11 (oQ 55 (.pick (.t 50) (.t 54) (kB false))) (.q 12 (oQ 56 (.mov (.t 55))) (.e 13 (oG 57 56 true (.ldv 5 (.t 6))) (.e 14 (oH 58 56 true (.call 40 [(.t 57)])) (.q 15 (oQ 59 (.pick (.t 56) (.t 58) (kB false))) (.e 16 (oN (.st 5 (.t 4) (.t 44))) (.e 17 (oQ 5 (.mov (.t 59))) .done)))))))))))))))
 (.e 2 (oQ 46 (.ld none (.t 45))) (.q 5 (oQ 49 (.bin .leq (.t 46) (.t 48))) (.q 6 (oQ 50 (.mov (.t 49))) (.q 7 (oG 51 50 true (.fa 3 3 (.t 7))) (.br (.e 0 (oQ 44 (.ldv 5 (.t 6))) (.e 8 (oG 52 50 true (.ld none (.t 51))) (.q 9 (oG 53 50 true (.len false (.t 52))) (.q 10 (oG 54 50 true (.bin .eql (.t 53) (kI 0))) (.q 11 (oQ 55 (.pick (.t 50) (.t 54) (kB false))) (.q 12 (oQ 56 (.mov (.t 55))) (.e 13 (oG 57 56 true (.ldv 5 (.t 6))) (.e 14 (oH 58 56 true (.call 40 [(.t 57)])) (.q 15 (oQ 59 (.pick (.t 56) (.t 58) (kB false))) (.e 16 (oN (.st 5 (.t 4) (.t 44))) (.e 17 (oQ 5 (.mov (.t 59))) .done)))))))))))
 (.e 8 (oG 52 50 true (.ld none (.t 51))) (.q 9 (oG 53 50 true (.len false (.t 52))) (.q 10 (oG 54 50 true (.bin .eql (.t 53) (kI 0))) (.q 11 (oQ 55 (.pick (.t 50) (.t 54) (kB false))) (.q 12 (oQ 56 (.mov (.t 55))) (.br (.e 0 (oQ 44 (.ldv 5 (.t 6))) (.e 13 (oG 57 56 true (.ldv 5 (.t 6))) (.e 14 (oH 58 56 true (.call 40 [(.t 57)])) (.q 15 (oQ 59 (.pick (.t 56) (.t 58) (kB false))) (.e 16 (oN (.st 5 (.t 4) (.t 44))) (.e 17 (oQ 5 (.mov (.t 59))) .done))))))
 (.e 13 (oG 57 56 true (.ldv 5 (.t 6))) (.br (.e 0 (oQ 44 (.ldv 5 (.t 6))) (.e 14 (oH 58 56 true (.call 40 [(.t 57)])) (.q 15 (oQ 59 (.pick (.t 56) (.t 58) (kB false))) (.e 16 (oN (.st 5 (.t 4) (.t 44))) (.e 17 (oQ 5 (.mov (.t 59))) .done)))))
 (.e 14 (oH 58 56 true (.call 40 [(.t 57)])) (.q 15 (oQ 59 (.pick (.t 56) (.t 58) (kB false))) (.e 0 (oQ 44 (.ldv 5 (.t 6))) (.e 16 (oN (.st 5 (.t 4) (.t 44))) (.e 17 (oQ 5 (.mov (.t 59))) .done)))))))))))))))))))))))))
 .ret))))))))
 (.seq
 (.any [10,11] [4,5] (.q 1 (oQ 73 (.fa 2 2 (.t 7))) (.q 3 (oQ 75 (.fa 0 0 (.t 2))) (.br (.e 0 (oQ 72 (.ldv 5 (.t 6))) (.br (.e 2 (oQ 74 (.ld none (.t 73))) (.e 4 (oQ 76 (.ld none (.t 75))) (.q 5 (oQ 77 (.bin .leq (.t 74) (.t 76))) (.q 6 (oQ 78 (.mov (.t 77))) (.e 7 (oG 79 78 true (.ldv 5 (.t 6))) (.e 8 (oH 80 78 true (.call 40 [(.t 79)])) (.q 9 (oQ 81 (.pick (.t 78) (.t 80) (kB false))) (.e 10 (oN (.st 5 (.t 4) (.t 72))) (.e 11 (oQ 5 (.mov (.t 81))) .done)))))))))
 (.e 4 (oQ 76 (.ld none (.t 75))) (.e 2 (oQ 74 (.ld none (.t 73))) (.q 5 (oQ 77 (.bin .leq (.t 74) (.t 76))) (.q 6 (oQ 78 (.mov (.t 77))) (.e 7 (oG 79 78 true (.ldv 5 (.t 6))) (.e 8 (oH 80 78 true (.call 40 [(.t 79)])) (.q 9 (oQ 81 (.pick (.t 78) (.t 80) (kB false))) (.e 10 (oN (.st 5 (.t 4) (.t 72))) (.e 11 (oQ 5 (.mov (.t 81))) .done)))))))))))
 (.br (.e 2 (oQ 74 (.ld none (.t 73))) (.br (.e 0 (oQ 72 (.ldv 5 (.t 6))) (.e 4 (oQ 76 (.ld none (.t 75))) (.q 5 (oQ 77 (.bin .leq (.t 74) (.t 76))) (.q 6 (oQ 78 (.mov (.t 77))) (.e 7 (oG 79 78 true (.ldv 5 (.t 6))) (.e 8 (oH 80 78 true (.call 40 [(.t 79)])) (.q 9 (oQ 81 (.pick (.t 78) (.t 80) (kB false))) (.e 10 (oN (.st 5 (.t 4) (.t 72))) (.e 11 (oQ 5 (.mov (.t 81))) .done)))))))))
 (.e 4 (oQ 76 (.ld none (.t 75))) (.q 5 (oQ 77 (.bin .leq (.t 74) (.t 76))) (.q 6 (oQ 78 (.mov (.t 77))) (.br (.e 0 (oQ 72 (.ldv 5 (.t 6))) (.e 7 (oG 79 78 true (.ldv 5 (.t 6))) (.e 8 (oH 80 78 true (.call 40 [(.t 79)])) (.q 9 (oQ 81 (.pick (.t 78) (.t 80) (kB false))) (.e 10 (oN (.st 5 (.t 4) (.t 72))) (.e 11 (oQ 5 (.mov (.t 81))) .done))))))
 (.e 7 (oG 79 78 true (.ldv 5 (.t 6))) (.br (.e 0 (oQ 72 (.ldv 5 (.t 6))) (.e 8 (oH 80 78 true (.call 40 [(.t 79)])) (.q 9 (oQ 81 (.pick (.t 78) (.t 80) (kB false))) (.e 10 (oN (.st 5 (.t 4) (.t 72))) (.e 11 (oQ 5 (.mov (.t 81))) .done)))))
 (.e 8 (oH 80 78 true (.call 40 [(.t 79)])) (.q 9 (oQ 81 (.pick (.t 78) (.t 80) (kB false))) (.e 0 (oQ 72 (.ldv 5 (.t 6))) (.e 10 (oN (.st 5 (.t 4) (.t 72))) (.e 11 (oQ 5 (.mov (.t 81))) .done)))))))))))))
 (.e 4 (oQ 76 (.ld none (.t 75))) (.br (.e 0 (oQ 72 (.ldv 5 (.t 6))) (.e 2 (oQ 74 (.ld none (.t 73))) (.q 5 (oQ 77 (.bin .leq (.t 74) (.t 76))) (.q 6 (oQ 78 (.mov (.t 77))) (.e 7 (oG 79 78 true (.ldv 5 (.t 6))) (.e 8 (oH 80 78 true (.call 40 [(.t 79)])) (.q 9 (oQ 81 (.pick (.t 78) (.t 80) (kB false))) (.e 10 (oN (.st 5 (.t 4) (.t 72))) (.e 11 (oQ 5 (.mov (.t 81))) .done)))))))))
 (.e 2 (oQ 74 (.ld none (.t 73))) (.q 5 (oQ 77 (.bin .leq (.t 74) (.t 76))) (.q 6 (oQ 78 (.mov (.t 77))) (.br (.e 0 (oQ 72 (.ldv 5 (.t 6))) (.e 7 (oG 79 78 true (.ldv 5 (.t 6))) (.e 8 (oH 80 78 true (.call 40 [(.t 79)])) (.q 9 (oQ 81 (.pick (.t 78) (.t 80) (kB false))) (.e 10 (oN (.st 5 (.t 4) (.t 72))) (.e 11 (oQ 5 (.mov (.t 81))) .done))))))
 (.e 7 (oG 79 78 true (.ldv 5 (.t 6))) (.br (.e 0 (oQ 72 (.ldv 5 (.t 6))) (.e 8 (oH 80 78 true (.call 40 [(.t 79)])) (.q 9 (oQ 81 (.pick (.t 78) (.t 80) (kB false))) (.e 10 (oN (.st 5 (.t 4) (.t 72))) (.e 11 (oQ 5 (.mov (.t 81))) .done)))))
 (.e 8 (oH 80 78 true (.call 40 [(.t 79)])) (.q 9 (oQ 81 (.pick (.t 78) (.t 80) (kB false))) (.e 0 (oQ 72 (.ldv 5 (.t 6))) (.e 10 (oN (.st 5 (.t 4) (.t 72))) (.e 11 (oQ 5 (.mov (.t 81))) .done))))))))))))))))))
 .ret)))))
theorem c79:(Go.Proofs.Tryz.f79).body.bind (comp prog.P (2,(Go.Proofs.Tryz.f79).ntmps) aNJ)=some m79:=by kernel_rfl
theorem r79:bA prog.P (Go.Proofs.Tryz.f79).results.toList=true:=by kernel_rfl
def aN6:List (Nat×List Nat):=[(0,[0,1]),(1,[4])]
def m80:MC :=
 (.seq
 (.reg false [0,1] [oQ 4 (.mov (kB false))])
 (.seq
 (.reg false [4] [oQ 5 (.mov (.t 0)),
 oQ 6 (.mov (.t 1)),
 oX 7 (.call 107 [(.t 5),(.t 6)]),
 oQ 8 (.bin .geq (.t 7) (kI 0)),
 oQ 4 (.mov (.t 8))])
 .ret))
theorem c80:(Go.Proofs.Tryz.f80).body.bind (comp prog.P (2,(Go.Proofs.Tryz.f80).ntmps) aN6)=some m80:=by kernel_rfl
theorem r80:bA prog.P (Go.Proofs.Tryz.f80).results.toList=true:=by kernel_rfl
def aMq:List (Nat×List Nat):=[(0,[0]),(1,[2])]
def m81:MC :=
 (.seq
 (.reg false [0] [oQ 2 (.mov (kB false))])
 (.seq
 (.reg false [2] [oQ 3 (.mov (.t 0)),
 oX 4 (.call 82 [(.t 3)]),
 oQ 5 (.un .not (.t 4)),
 oQ 2 (.mov (.t 5))])
 .ret))
theorem c81:(Go.Proofs.Tryz.f81).body.bind (comp prog.P (1,(Go.Proofs.Tryz.f81).ntmps) aMq)=some m81:=by kernel_rfl
theorem r81:bA prog.P (Go.Proofs.Tryz.f81).results.toList=true:=by kernel_rfl
theorem aNH:dE prog.P 81=true:=by kernel_rfl
def aMC:List (Nat×List Nat):=[(0,[0]),(1,[2])]
def m82:MC :=
 (.seq
 (.reg false [0] [oQ 2 (.mov (kB false))])
 (.seq
 (.reg false [2] [oQ 3 (.mov (.t 0)),
 oQ 4 (.len true (.t 3)),
 oX 5 (.call 37 [(.t 4),(kI 1),(kI 40)]),
 oQ 6 (.mov (.t 5)),
 oG 7 6 true (.mov (.t 0)),
 oH 8 6 true (.call 108 [(.t 7),(.k (.d (.str [97,98,99,100,101,102,103,104,105,106,107,108,109,110,111,112,113,114,115,116,117,118,119,120,121,122,48,49,50,51,52,53,54,55,56,57,32,45])))]),
 oG 9 6 true (.bin .eql (.t 8) (.k (.d (.str [])))),
 oQ 10 (.pick (.t 6) (.t 9) (kB false)),
 oQ 2 (.mov (.t 10))])
 .ret))
theorem c82:(Go.Proofs.Tryz.f82).body.bind (comp prog.P (1,(Go.Proofs.Tryz.f82).ntmps) aMC)=some m82:=by kernel_rfl
theorem r82:bA prog.P (Go.Proofs.Tryz.f82).results.toList=true:=by kernel_rfl
def aNv:List (Nat×List Nat):=[(0,[0]),(1,[2])]
def m83:MC :=
 (.seq
 (.reg false [0] [oQ 2 (.mov (kB false))])
 (.seq
 (.reg false [2] [oQ 3 (.mov (.t 0)),
 oX 4 (.call 37 [(.t 3),(kI 1),(kI 999)]),
 oQ 2 (.mov (.t 4))])
 .ret))
theorem c83:(Go.Proofs.Tryz.f83).body.bind (comp prog.P (1,(Go.Proofs.Tryz.f83).ntmps) aNv)=some m83:=by kernel_rfl
theorem r83:bA prog.P (Go.Proofs.Tryz.f83).results.toList=true:=by kernel_rfl
def aN8:List (Nat×List Nat):=[(0,[0]),(1,[2])]
def m84:MC :=
 (.seq
 (.reg false [0] [oQ 2 (.mov (kB false))])
 (.seq
 (.reg false [2] [oQ 3 (.mov (.t 0)),
 oX 4 (.call 37 [(.t 3),(kI 1),(kI 3)]),
 oQ 2 (.mov (.t 4))])
 .ret))
theorem c84:(Go.Proofs.Tryz.f84).body.bind (comp prog.P (1,(Go.Proofs.Tryz.f84).ntmps) aN8)=some m84:=by kernel_rfl
theorem r84:bA prog.P (Go.Proofs.Tryz.f84).results.toList=true:=by kernel_rfl
def aMy:List (Nat×List Nat):=[(0,[0]),(1,[0,3]),(2,[0,3,7]),(3,[0,3]),(4,[0,3,19]),(5,[2]),(6,[2])]
def m85:MC :=
 (.seq
 (.reg false [0] [oQ 2 (.mov (kB false))])
 (.seq
 (.seq
 (.reg false [0,3] [oQ 3 (.mov (kI 1))])
 (.block 0
 (.loop
 (.seq
 (.seq
 (.reg false [0,3,7] [oQ 4 (.mov (.t 3)),
 oQ 5 (.mov (.t 0)),
 oQ 6 (.len false (.t 5)),
 oQ 7 (.bin .lss (.t 4) (.t 6))])
 (.cond (.t 7)
 .skip
 (.exit 0)))
 (.seq
 (.block 1
 (.seq
 (.reg true [0,3,19] [oQ 10 (.mov (.t 0)),
 oQ 11 (.mov (.t 3)),
 oQ 12 (.bin .sub (.t 11) (kI 1)),
 oQ 13 (.ia 1 (.t 10) (.t 12)),
 oQ 14 (.ld none (.t 13)),
 oQ 15 (.mov (.t 0)),
 oQ 16 (.mov (.t 3)),
 oQ 17 (.ia 1 (.t 15) (.t 16)),
 oQ 18 (.ld none (.t 17)),
 oQ 19 (.bin .geq (.t 14) (.t 18))])
 (.cond (.t 19)
 (.seq
 (.reg false [2] [oQ 2 (.mov (kB false))])
 .ret)
 .skip)))
 (.reg false [0,3] [oQ 8 (.mov (.t 3)),
 oQ 9 (.bin .add (.t 8) (kI 1)),
 oQ 3 (.mov (.t 9))]))))))
 (.seq
 (.reg false [2] [oQ 2 (.mov (kB true))])
 .ret)))
theorem c85:(Go.Proofs.Tryz.f85).body.bind (comp prog.P (1,(Go.Proofs.Tryz.f85).ntmps) aMy)=some m85:=by kernel_rfl
theorem r85:bA prog.P (Go.Proofs.Tryz.f85).results.toList=true:=by kernel_rfl
def aNd:List (Nat×List Nat):=[(0,[0,1]),(1,[4])]
def m86:MC :=
 (.seq
 (.reg false [0,1] [oQ 4 (.mov (kB false))])
 (.seq
 (.reg false [4] [oQ 5 (.mov (.t 0)),
 oQ 6 (.mov (.t 1)),
 oX 7 (.call 109 [(.t 5),(.t 6)]),
 oQ 8 (.bin .geq (.t 7) (kI 0)),
 oQ 4 (.mov (.t 8))])
 .ret))
theorem c86:(Go.Proofs.Tryz.f86).body.bind (comp prog.P (2,(Go.Proofs.Tryz.f86).ntmps) aNd)=some m86:=by kernel_rfl
theorem r86:bA prog.P (Go.Proofs.Tryz.f86).results.toList=true:=by kernel_rfl
def aMl:List (Nat×List Nat):=[(0,[0]),(1,[2])]
def m87:MC :=
 (.seq
 (.reg false [0] [oQ 2 (.mov (kB false))])
 (.seq
 (.reg false [2] [oQ 3 (.mov (.t 0)),
 oX 4 (.call 57 [(.t 3)]),
 oQ 5 (.un .not (.t 4)),
 oQ 2 (.mov (.t 5))])
 .ret))
theorem c87:(Go.Proofs.Tryz.f87).body.bind (comp prog.P (1,(Go.Proofs.Tryz.f87).ntmps) aMl)=some m87:=by kernel_rfl
theorem r87:bA prog.P (Go.Proofs.Tryz.f87).results.toList=true:=by kernel_rfl
theorem aMB:dE prog.P 87=true:=by kernel_rfl
def aNN:List (Nat×List Nat):=[(0,[0]),(1,[0,3]),(2,[0,3,13]),(3,[0,3]),(4,[0,3]),(5,[0,3]),(6,[0,3,53]),(7,[0,2]),(8,[0,2])]
def m88:MC :=
 (.seq
 (.reg false [0] [oQ 2 (.mov (kI 0))])
 (.seq
 (.reg false [0,3] [oQ 3 (.mov (kI 0))])
 (.seq
 (.seq
 (.reg true [0,3,13] [oQ 4 (.mov (.t 0)),
 oQ 5 (.nck (.t 4)),
 oQ 6 (.fa 1 1 (.t 5)),
 oQ 7 (.ld none (.t 6)),
 oQ 8 (.mov (.t 0)),
 oQ 9 (.nck (.t 8)),
 oQ 10 (.fa 0 0 (.t 9)),
 oQ 11 (.ld none (.t 10)),
 oQ 12 (.len false (.t 11)),
 oQ 13 (.bin .lss (.t 7) (.t 12))])
 (.cond (.t 13)
 (.reg true [0,3] [oQ 14 (.mov (.t 0)),
 oQ 15 (.nck (.t 14)),
 oQ 16 (.fa 0 0 (.t 15)),
 oQ 17 (.ld none (.t 16)),
 oQ 18 (.mov (.t 0)),
 oQ 19 (.nck (.t 18)),
 oQ 20 (.fa 1 1 (.t 19)),
 oQ 21 (.ld none (.t 20)),
 oQ 22 (.ia 1 (.t 17) (.t 21)),
 oQ 23 (.ld none (.t 22)),
 oQ 24 (.conv .i64 (.t 23)),
 oQ 3 (.mov (.t 24))])
 .skip))
 (.seq
 (.reg false [0,3] [oQ 25 (.mov (.t 0)),
 oQ 26 (.nck (.t 25)),
 oQ 27 (.fa 1 1 (.t 26)),
 oQ 28 (.ld none (.t 27)),
 oQ 29 (.bin .add (.t 28) (kI 1)),
 oQ 30 (.nck (.t 25)),
 oQ 31 (.fa 1 1 (.t 30)),
 oN (.st 1 (.t 31) (.t 29))])
 (.seq
 (.reg false [0,3] [oQ 32 (.mov (.t 0)),
 oQ 33 (.mov (.t 0)),
 oQ 34 (.nck (.t 33)),
 oQ 35 (.fa 2 2 (.t 34)),
 oQ 36 (.ld none (.t 35)),
 oQ 37 (.bin .mul (.t 36) (.k (.d (.int .u64 6364136223846793005)))),
 oQ 38 (.mov (.t 3)),
 oQ 39 (.conv .u64 (.t 38)),
 oQ 40 (.bin .add (.t 37) (.t 39)),
 oQ 41 (.bin .add (.t 40) (.k (.d (.int .u64 103535)))),
 oQ 42 (.nck (.t 32)),
 oQ 43 (.fa 2 2 (.t 42)),
 oN (.st 1 (.t 43) (.t 41))])
 (.seq
 (.seq
 (.reg true [0,3,53] [oQ 44 (.mov (.t 0)),
 oQ 45 (.nck (.t 44)),
 oQ 46 (.fa 1 1 (.t 45)),
 oQ 47 (.ld none (.t 46)),
 oQ 48 (.mov (.t 0)),
 oQ 49 (.nck (.t 48)),
 oQ 50 (.fa 0 0 (.t 49)),
 oQ 51 (.ld none (.t 50)),
 oQ 52 (.len false (.t 51)),
 oQ 53 (.bin .leq (.t 47) (.t 52))])
 (.cond (.t 53)
 (.seq
 (.reg false [0,2] [oQ 54 (.mov (.t 3)),
 oQ 2 (.mov (.t 54))])
 .ret)
 .skip))
 (.seq
 (.reg false [0,2] [oQ 55 (.mov (.t 0)),
 oQ 56 (.nck (.t 55)),
 oQ 57 (.fa 2 2 (.t 56)),
 oQ 58 (.ld none (.t 57)),
 oQ 59 (.shr (.t 58) (.k (.d (.int .u64 40)))),
 oQ 60 (.bin .and (.t 59) (.k (.d (.int .u64 255)))),
 oQ 61 (.conv .i64 (.t 60)),
 oQ 2 (.mov (.t 61))])
 .ret)))))))
theorem c88:(Go.Proofs.Tryz.f88).body.bind (comp prog.P (1,(Go.Proofs.Tryz.f88).ntmps) aNN)=some m88:=by kernel_rfl
theorem r88:bA prog.P (Go.Proofs.Tryz.f88).results.toList=true:=by kernel_rfl
def aNB:List (Nat×List Nat):=[(0,[0]),(1,[2])]
def m89:MC :=
 (.seq
 (.reg false [0] [oQ 2 (.mov (.k .nil))])
 (.seq
 (.reg false [2] [oX 3 (.bs 1 0 (.int .i64 0) []),
 oQ 4 (.mov (.t 0)),
 oX 5 (.app 1 8 (.t 3) (.t 4)),
 oQ 2 (.mov (.t 5))])
 .ret))
theorem c89:(Go.Proofs.Tryz.f89).body.bind (comp prog.P (1,(Go.Proofs.Tryz.f89).ntmps) aNB)=some m89:=by kernel_rfl
theorem r89:bA prog.P (Go.Proofs.Tryz.f89).results.toList=true:=by kernel_rfl
def aNi:List (Nat×List Nat):=[(0,[0,1]),(1,[0,1,7,8]),(2,[0,1,7,8,9]),(3,[0,1,5,7,8]),(4,[0,1,5,7,8,16]),(5,[4]),(6,[0,1,7,8]),(7,[4])]
def m90:MC :=
 (.seq
 (.reg false [0,1] [oQ 4 (.mov (kI 0))])
 (.seq
 (.seq
 (.reg false [0,1,7,8] [oQ 6 (.mov (.t 0)),
 oQ 7 (.len false (.t 6)),
 oQ 8 (.mov (kI 0))])
 (.block 0
 (.loop
 (.seq
 (.reg false [0,1,7,8,9] [oQ 9 (.bin .lss (.t 8) (.t 7))])
 (.seq
 (.cond (.t 9)
 .skip
 (.exit 0))
 (.seq
 (.block 1
 (.seq
 (.reg false [0,1,5,7,8] [oQ 10 (.mov (.t 8)),
 oQ 5 (.mov (.t 10))])
 (.seq
 (.reg false [0,1,5,7,8,16] [oQ 11 (.mov (.t 1)),
 oQ 12 (.mov (.t 0)),
 oQ 13 (.mov (.t 5)),
 oQ 14 (.ia 1 (.t 12) (.t 13)),
 oQ 15 (.ld none (.t 14)),
 oQ 16 (.bin .eql (.t 11) (.t 15))])
 (.cond (.t 16)
 (.seq
 (.reg false [4] [oQ 17 (.mov (.t 5)),
 oQ 4 (.mov (.t 17))])
 .ret)
 .skip))))
 (.reg false [0,1,7,8] [oQ 18 (.bin .add (.t 8) (kI 1)),
 oQ 8 (.mov (.t 18))])))))))
 (.seq
 (.reg false [4] [oQ 4 (.mov (.k (.d (.int .i64 (-1)))))])
 .ret)))
theorem c90:(Go.Proofs.Tryz.f90).body.bind (comp prog.P (2,(Go.Proofs.Tryz.f90).ntmps) aNi)=some m90:=by kernel_rfl
theorem r90:bA prog.P (Go.Proofs.Tryz.f90).results.toList=true:=by kernel_rfl
def aL8:List (Nat×List Nat):=[(0,[0,1]),(1,[0,1,7,8]),(2,[0,1,7,8,9]),(3,[0,1,5,7,8]),(4,[0,1,5,7,8,16]),(5,[4]),(6,[0,1,7,8]),(7,[4])]
def m95:MC :=
 (.seq
 (.reg false [0,1] [oQ 4 (.mov (kI 0))])
 (.seq
 (.seq
 (.reg false [0,1,7,8] [oQ 6 (.mov (.t 0)),
 oQ 7 (.len false (.t 6)),
 oQ 8 (.mov (kI 0))])
 (.block 0
 (.loop
 (.seq
 (.reg false [0,1,7,8,9] [oQ 9 (.bin .lss (.t 8) (.t 7))])
 (.seq
 (.cond (.t 9)
 .skip
 (.exit 0))
 (.seq
 (.block 1
 (.seq
 (.reg false [0,1,5,7,8] [oQ 10 (.mov (.t 8)),
 oQ 5 (.mov (.t 10))])
 (.seq
 (.reg false [0,1,5,7,8,16] [oQ 11 (.mov (.t 1)),
 oQ 12 (.mov (.t 0)),
 oQ 13 (.mov (.t 5)),
 oQ 14 (.ia 4 (.t 12) (.t 13)),
 oQ 15 (.ld (some 4) (.t 14)),
 oX 16 (.callW (.t 11) [(.t 15)])])
 (.cond (.t 16)
 (.seq
 (.reg false [4] [oQ 17 (.mov (.t 5)),
 oQ 4 (.mov (.t 17))])
 .ret)
 .skip))))
 (.reg false [0,1,7,8] [oQ 18 (.bin .add (.t 8) (kI 1)),
 oQ 8 (.mov (.t 18))])))))))
 (.seq
 (.reg false [4] [oQ 4 (.mov (.k (.d (.int .i64 (-1)))))])
 .ret)))
theorem c95:(Go.Proofs.Tryz.f95).body.bind (comp prog.P (2,(Go.Proofs.Tryz.f95).ntmps) aL8)=some m95:=by kernel_rfl
theorem r95:bA prog.P (Go.Proofs.Tryz.f95).results.toList=true:=by kernel_rfl
def aNA:List (Nat×List Nat):=[(0,[1,2]),(1,[3])]
def m96:MC :=
 (.seq
 (.reg false [1,2] [oX 2 (.box (.t 0)),
 oQ 3 (.mov (kB false))])
 (.seq
 (.reg false [3] [oQ 4 (.fa 0 0 (.t 2)),
 oQ 5 (.ld none (.t 4)),
 oQ 6 (.ld none (.t 1)),
 oQ 7 (.bin .eql (.t 5) (.t 6)),
 oQ 3 (.mov (.t 7))])
 .ret))
theorem c96:(Go.Proofs.Tryz.f96).body.bind (comp prog.P (2,(Go.Proofs.Tryz.f96).ntmps) aNA)=some m96:=by kernel_rfl
theorem r96:bA prog.P (Go.Proofs.Tryz.f96).results.toList=true:=by kernel_rfl
theorem aL7:dE prog.P 96=true:=by kernel_rfl
def aNh:List (Nat×List Nat):=[(0,[0]),(1,[2])]
def m97:MC :=
 (.seq
 (.reg false [0] [oQ 2 (.mov (.k (.d (.str []))))])
 (.seq
 (.reg false [2] [oQ 3 (.mov (.t 0)),
 oX 4 (.call 115 [(.t 3)]),
 oQ 2 (.mov (.t 4))])
 .ret))
theorem c97:(Go.Proofs.Tryz.f97).body.bind (comp prog.P (1,(Go.Proofs.Tryz.f97).ntmps) aNh)=some m97:=by kernel_rfl
theorem r97:bA prog.P (Go.Proofs.Tryz.f97).results.toList=true:=by kernel_rfl
def aM3:List (Nat×List Nat):=[(0,[0]),(1,[0,4]),(2,[2]),(3,[0,10]),(4,[2]),(5,[2])]
def m99:MC :=
 (.seq
 (.reg false [0] [oQ 2 (.mov (.k (.d (.str []))))])
 (.seq
 (.seq
 (.reg false [0,4] [oQ 3 (.mov (.t 0)),
 oQ 4 (.bin .lss (.t 3) (kI 0))])
 (.cond (.t 4)
 (.seq
 (.reg false [2] [oQ 5 (.mov (.t 0)),
 oQ 6 (.un .neg (.t 5)),
 oX 7 (.call 99 [(.t 6)]),
 oQ 8 (.bin .add (.k (.d (.str [45]))) (.t 7)),
 oQ 2 (.mov (.t 8))])
 .ret)
 .skip))
 (.seq
 (.seq
 (.reg false [0,10] [oQ 9 (.mov (.t 0)),
 oQ 10 (.bin .lss (.t 9) (kI 10))])
 (.cond (.t 10)
 (.seq
 (.reg false [2] [oQ 11 (.mov (.t 0)),
 oQ 12 (.mov (.t 0)),
 oQ 13 (.bin .add (.t 12) (kI 1)),
 oQ 14 (.sls (.k (.d (.str [48,49,50,51,52,53,54,55,56,57]))) (some (.t 11)) (some (.t 13))),
 oQ 2 (.mov (.t 14))])
 .ret)
 .skip))
 (.seq
 (.reg true [2] [oQ 15 (.mov (.t 0)),
 oQ 16 (.bin .quo (.t 15) (kI 10)),
 oQ 17 (.callP 99 [(.t 16)]),
 oQ 18 (.mov (.t 0)),
 oQ 19 (.bin .rem (.t 18) (kI 10)),
 oQ 20 (.mov (.t 0)),
 oQ 21 (.bin .rem (.t 20) (kI 10)),
 oQ 22 (.bin .add (.t 21) (kI 1)),
 oQ 23 (.sls (.k (.d (.str [48,49,50,51,52,53,54,55,56,57]))) (some (.t 19)) (some (.t 22))),
 oQ 24 (.bin .add (.t 17) (.t 23)),
 oQ 2 (.mov (.t 24))])
 .ret))))
theorem c99:(Go.Proofs.Tryz.f99).body.bind (comp prog.P (1,(Go.Proofs.Tryz.f99).ntmps) aM3)=some m99:=by kernel_rfl
theorem r99:bA prog.P (Go.Proofs.Tryz.f99).results.toList=true:=by kernel_rfl
def aKD:List (Nat×List Nat):=[(0,[0,2]),(1,[0])]
def aLv:MC :=
 (.seq
 (.reg false [0,2] [oQ 3 (.mov (.t 0)),
 oQ 4 (.len false (.t 3)),
 oQ 2 (.mov (.t 4))])
 (.reg false [0] [oQ 5 (.mov (.t 0)),
 oQ 6 (.mov (.t 2)),
 oQ 7 (.mov (.t 2)),
 oQ 8 (.conv .u64 (.t 7)),
 oX 9 (.call 119 [(.t 8)]),
 oX 10 (.call 118 [(.t 5),(kI 0),(.t 6),(.t 9)])]))
theorem aNU:(Go.Proofs.Tryz.f103).body.bind (comp prog.P (1,(Go.Proofs.Tryz.f103).ntmps) aKD)=some aLv:=by kernel_rfl
theorem aMJ:bA prog.P (Go.Proofs.Tryz.f103).results.toList=true:=by kernel_rfl
def aLL:List (Nat×List Nat):=[(0,[0,1]),(1,[0,1,5]),(2,[0,1,5,19]),(3,[0,4]),(4,[0,1,5,21]),(5,[0,1,5,25]),(6,[0,4]),(7,[0,1]),(8,[0,1,5,21,46]),(9,[0,1]),(10,[0,1,5,55]),(11,[0,1]),(12,[0]),(13,[0,4]),(1000007,[1,20,1,0,1,1,1,2,1,3,1,4,1,5,1,6,1,10,1,11,1,12,1,13,2,7,1,8,1,9,2,14,1,15,2,16,2,17,1,18,1,19,2,20,0])]
def aKo:MC :=
 (.seq
 (.reg false [0,1] [oQ 4 (.mov (kB false))])
 (.seq
 (.reg false [0,1,5] [oQ 6 (.mov (.t 0)),
 oQ 7 (.nck (.t 6)),
 oQ 8 (.fa 1 1 (.t 7)),
 oQ 9 (.ld none (.t 8)),
 oQ 10 (.mov (.t 1)),
 oQ 11 (.ia 4 (.t 9) (.t 10)),
 oQ 12 (.ld (some 4) (.t 11)),
 oX 5 (.alloc (.st (.cons (.int .i64 0) (.cons (.int .i64 0) (.cons (.int .i64 0) (.cons (.sl true 1 .nil) .nil)))))),
 oN (.st 4 (.t 5) (.t 12))])
 (.seq
 (.seq
 (.reg true [0,1,5,19] [oQ 13 (.fa 2 2 (.t 5)),
 oQ 14 (.ld none (.t 13)),
 oQ 15 (.mov (.t 0)),
 oQ 16 (.nck (.t 15)),
 oQ 17 (.fa 0 0 (.t 16)),
 oQ 18 (.ld none (.t 17)),
 oQ 19 (.bin .gtr (.t 14) (.t 18))])
 (.cond (.t 19)
 (.seq
 (.reg false [0,4] [oQ 4 (.mov (kB false))])
 .ret)
 .skip))
 (.seq
 (.seq
 (.reg false [0,1,5,21] [oQ 20 (.fa 1 1 (.t 5)),
 oQ 21 (.ld none (.t 20))])
 (.block 0
 (.seq
 (.reg false [0,1,5,21,46] [oQ 47 (.bin .eql (.t 21) (kI 1)),
 oQ 46 (.mov (.t 47))])
 (.cond (.t 46)
 (.reg false [0,1] [oQ 48 (.mov (.t 0)),
 oQ 49 (.nck (.t 48)),
 oQ 50 (.fa 2 2 (.t 49)),
 oQ 51 (.ld none (.t 50)),
 oQ 52 (.bin .add (.t 51) (kI 1)),
 oQ 53 (.nck (.t 48)),
 oQ 54 (.fa 2 2 (.t 53)),
 oN (.st 1 (.t 54) (.t 52))])
 (.seq
 (.reg false [0,1,5,55] [oQ 56 (.bin .eql (.t 21) (kI 2)),
 oQ 55 (.mov (.t 56))])
 (.cond (.t 55)
 (.reg false [0,1] [oQ 57 (.mov (.t 0)),
 oQ 58 (.nck (.t 57)),
 oQ 59 (.fa 3 3 (.t 58)),
 oQ 60 (.ld none (.t 59)),
 oQ 61 (.bin .add (.t 60) (kI 1)),
 oQ 62 (.nck (.t 57)),
 oQ 63 (.fa 3 3 (.t 62)),
 oN (.st 1 (.t 63) (.t 61))])
 (.seq
 (.seq
 (.reg false [0,1,5,25] [oQ 22 (.fa 3 3 (.t 5)),
 oQ 23 (.ld none (.t 22)),
 oQ 24 (.len false (.t 23)),
 oQ 25 (.bin .gtr (.t 24) (kI 0))])
 (.cond (.t 25)
 (.seq
 (.reg false [0,4] [oQ 4 (.mov (kB false))])
 .ret)
 .skip))
 (.any [20] [0,1] (.q 0 (oQ 26 (.mov (.t 0))) (.q 1 (oQ 27 (.mov (.t 0))) (.q 2 (oQ 28 (.nck (.t 27))) (.q 3 (oQ 29 (.fa 4 4 (.t 28))) (.q 4 (oQ 30 (.ld none (.t 29))) (.q 5 (oQ 31 (.fa 0 0 (.t 5))) (.q 6 (oQ 32 (.ld none (.t 31))) (.q 10 (oQ 36 (.mov (.t 0))) (.q 11 (oQ 37 (.nck (.t 36))) (.q 12 (oQ 38 (.fa 0 0 (.t 37))) (.q 13 (oQ 39 (.ld none (.t 38))) (.e 7 (oX 33 (.call 97 [(.t 32)])) (.q 8 (oQ 34 (.bin .add (.k (.d (.str [114]))) (.t 33))) (.q 9 (oQ 35 (.bin .add (.t 34) (.k (.d (.str [32,100]))))) (.e 14 (oX 40 (.call 97 [(.t 39)])) (.q 15 (oQ 41 (.bin .add (.t 35) (.t 40))) (.e 16 (oX 42 (.bs 1 1 (.str []) [(0,(.t 41))])) (.e 17 (oX 43 (.app 1 16 (.t 30) (.t 42))) (.q 18 (oQ 44 (.nck (.t 26))) (.q 19 (oQ 45 (.fa 4 4 (.t 44))) (.e 20 (oN (.st 1 (.t 45) (.t 43))) .done)))))))))))))))))))))))))))))
 (.seq
 (.reg false [0] [oQ 64 (.mov (.t 0)),
 oQ 65 (.mov (.t 0)),
 oQ 66 (.nck (.t 65)),
 oQ 67 (.fa 1 1 (.t 66)),
 oQ 68 (.ld none (.t 67)),
 oQ 69 (.mov (.t 1)),
 oQ 70 (.mov (.t 1)),
 oQ 71 (.bin .add (.t 70) (kI 1)),
 oX 72 (.call 120 [(.t 68),(.t 69),(.t 71)]),
 oQ 73 (.nck (.t 64)),
 oQ 74 (.fa 1 1 (.t 73)),
 oN (.st 1 (.t 74) (.t 72))])
 (.seq
 (.reg false [0,4] [oQ 4 (.mov (kB true))])
 .ret))))))
theorem aMm:(Go.Proofs.Tryz.f104).body.bind (comp prog.P (2,(Go.Proofs.Tryz.f104).ntmps) aLL)=some aKo:=by kernel_rfl
theorem aNL:bA prog.P (Go.Proofs.Tryz.f104).results.toList=true:=by kernel_rfl
def aLt:List (Nat×List Nat):=[(0,[0]),(1,[0,3]),(2,[0,3,8]),(3,[0,3]),(4,[0,3,4]),(5,[0,3,33]),(6,[2]),(7,[2])]
def aKP:MC :=
 (.seq
 (.reg false [0] [oQ 2 (.mov (kB false))])
 (.seq
 (.seq
 (.reg false [0,3] [oQ 3 (.mov (kI 0))])
 (.block 0
 (.loop
 (.seq
 (.seq
 (.reg false [0,3,8] [oQ 5 (.mov (.t 3)),
 oQ 6 (.mov (.t 0)),
 oQ 7 (.len true (.t 6)),
 oQ 8 (.bin .lss (.t 5) (.t 7))])
 (.cond (.t 8)
 .skip
 (.exit 0)))
 (.seq
 (.block 1
 (.seq
 (.reg false [0,3,4] [oQ 11 (.mov (.t 0)),
 oQ 12 (.mov (.t 3)),
 oQ 13 (.ix (.t 11) (.t 12)),
 oQ 4 (.mov (.t 13))])
 (.seq
 (.reg false [0,3,33] [oQ 14 (.mov (.t 4)),
 oX 15 (.call 121 [(.t 14)]),
 oQ 16 (.un .not (.t 15)),
 oQ 17 (.mov (.t 16)),
 oG 18 17 true (.mov (.t 4)),
 oG 19 17 true (.bin .geq (.t 18) (.k (.d (.int .u8 48)))),
 oG 20 17 true (.mov (.t 19)),
 oG 21 20 true (.mov (.t 4)),
 oG 22 20 true (.bin .leq (.t 21) (.k (.d (.int .u8 57)))),
 oG 23 17 true (.pick (.t 20) (.t 22) (kB false)),
 oG 24 17 true (.un .not (.t 23)),
 oQ 25 (.pick (.t 17) (.t 24) (kB false)),
 oQ 26 (.mov (.t 25)),
 oG 27 26 true (.mov (.t 4)),
 oG 28 26 true (.bin .neq (.t 27) (.k (.d (.int .u8 32)))),
 oQ 29 (.pick (.t 26) (.t 28) (kB false)),
 oQ 30 (.mov (.t 29)),
 oG 31 30 true (.mov (.t 4)),
 oG 32 30 true (.bin .neq (.t 31) (.k (.d (.int .u8 45)))),
 oQ 33 (.pick (.t 30) (.t 32) (kB false))])
 (.cond (.t 33)
 (.seq
 (.reg false [2] [oQ 2 (.mov (kB false))])
 .ret)
 .skip))))
 (.reg false [0,3] [oQ 9 (.mov (.t 3)),
 oQ 10 (.bin .add (.t 9) (kI 1)),
 oQ 3 (.mov (.t 10))]))))))
 (.seq
 (.reg false [2] [oQ 34 (.mov (.t 0)),
 oQ 35 (.len true (.t 34)),
 oX 36 (.call 60 [(.t 35),(kI 1),(kI 40)]),
 oQ 2 (.mov (.t 36))])
 .ret)))
theorem aL6:(Go.Proofs.Tryz.f105).body.bind (comp prog.P (1,(Go.Proofs.Tryz.f105).ntmps) aLt)=some aKP:=by kernel_rfl
theorem aN1:bA prog.P (Go.Proofs.Tryz.f105).results.toList=true:=by kernel_rfl
def aLi:List (Nat×List Nat):=[(0,[0,1,2]),(1,[0,1,2,7]),(2,[0,1,2,7,11]),(3,[0,1,2,7]),(4,[0,1,2,7,37]),(5,[6]),(6,[6])]
def aLF:MC :=
 (.seq
 (.reg false [0,1,2] [oQ 6 (.mov (kB false))])
 (.seq
 (.seq
 (.reg false [0,1,2,7] [oQ 7 (.mov (kI 0))])
 (.block 0
 (.loop
 (.seq
 (.seq
 (.reg false [0,1,2,7,11] [oQ 8 (.mov (.t 7)),
 oQ 9 (.mov (.t 0)),
 oQ 10 (.len false (.t 9)),
 oQ 11 (.bin .lss (.t 8) (.t 10))])
 (.cond (.t 11)
 .skip
 (.exit 0)))
 (.seq
 (.block 1
 (.seq
 (.reg true [0,1,2,7,37] [oQ 14 (.mov (.t 0)),
 oQ 15 (.mov (.t 7)),
 oQ 16 (.ia 1 (.t 14) (.t 15)),
 oQ 17 (.ld none (.t 16)),
 oQ 18 (.mov (.t 1)),
 oQ 19 (.mov (.t 2)),
 oQ 20 (.callP 60 [(.t 17),(.t 18),(.t 19)]),
 oQ 21 (.un .not (.t 20)),
 oQ 22 (.mov (.t 21)),
 oG 23 22 false (.mov (.t 7)),
 oG 24 22 false (.bin .gtr (.t 23) (kI 0)),
 oG 25 22 false (.mov (.t 24)),
 oG 26 25 true (.mov (.t 0)),
 oG 27 25 true (.mov (.t 7)),
 oG 28 25 true (.bin .sub (.t 27) (kI 1)),
 oG 29 25 true (.ia 1 (.t 26) (.t 28)),
 oG 30 25 true (.ld none (.t 29)),
 oG 31 25 true (.mov (.t 0)),
 oG 32 25 true (.mov (.t 7)),
 oG 33 25 true (.ia 1 (.t 31) (.t 32)),
 oG 34 25 true (.ld none (.t 33)),
 oG 35 25 true (.bin .geq (.t 30) (.t 34)),
 oG 36 22 false (.pick (.t 25) (.t 35) (kB false)),
 oQ 37 (.pick (.t 22) (kB true) (.t 36))])
 (.cond (.t 37)
 (.seq
 (.reg false [6] [oQ 6 (.mov (kB false))])
 .ret)
 .skip)))
 (.reg false [0,1,2,7] [oQ 12 (.mov (.t 7)),
 oQ 13 (.bin .add (.t 12) (kI 1)),
 oQ 7 (.mov (.t 13))]))))))
 (.seq
 (.reg false [6] [oQ 6 (.mov (kB true))])
 .ret)))
theorem aMU:(Go.Proofs.Tryz.f106).body.bind (comp prog.P (3,(Go.Proofs.Tryz.f106).ntmps) aLi)=some aLF:=by kernel_rfl
theorem aMo:bA prog.P (Go.Proofs.Tryz.f106).results.toList=true:=by kernel_rfl
def aLI:List (Nat×List Nat):=[(0,[0,1]),(1,[0,1,7,8]),(2,[0,1,7,8,9]),(3,[0,1,5,7,8]),(4,[0,1,5,7,8,16]),(5,[4]),(6,[0,1,7,8]),(7,[4])]
def aLy:MC :=
 (.seq
 (.reg false [0,1] [oQ 4 (.mov (kI 0))])
 (.seq
 (.seq
 (.reg false [0,1,7,8] [oQ 6 (.mov (.t 0)),
 oQ 7 (.len false (.t 6)),
 oQ 8 (.mov (kI 0))])
 (.block 0
 (.loop
 (.seq
 (.reg false [0,1,7,8,9] [oQ 9 (.bin .lss (.t 8) (.t 7))])
 (.seq
 (.cond (.t 9)
 .skip
 (.exit 0))
 (.seq
 (.block 1
 (.seq
 (.reg false [0,1,5,7,8] [oQ 10 (.mov (.t 8)),
 oQ 5 (.mov (.t 10))])
 (.seq
 (.reg false [0,1,5,7,8,16] [oQ 11 (.mov (.t 1)),
 oQ 12 (.mov (.t 0)),
 oQ 13 (.mov (.t 5)),
 oQ 14 (.ia 1 (.t 12) (.t 13)),
 oQ 15 (.ld none (.t 14)),
 oX 16 (.callW (.t 11) [(.t 15)])])
 (.cond (.t 16)
 (.seq
 (.reg false [4] [oQ 17 (.mov (.t 5)),
 oQ 4 (.mov (.t 17))])
 .ret)
 .skip))))
 (.reg false [0,1,7,8] [oQ 18 (.bin .add (.t 8) (kI 1)),
 oQ 8 (.mov (.t 18))])))))))
 (.seq
 (.reg false [4] [oQ 4 (.mov (.k (.d (.int .i64 (-1)))))])
 .ret)))
theorem aNg:(Go.Proofs.Tryz.f107).body.bind (comp prog.P (2,(Go.Proofs.Tryz.f107).ntmps) aLI)=some aLy:=by kernel_rfl
theorem aMj:bA prog.P (Go.Proofs.Tryz.f107).results.toList=true:=by kernel_rfl
def aLs:List (Nat×List Nat):=[(0,[0,1]),(1,[0,1,12]),(2,[4]),(3,[0,1,21]),(4,[4]),(5,[0,1,5,6]),(6,[0,1,5,34]),(7,[4]),(8,[4])]
def aKy:MC :=
 (.seq
 (.reg false [0,1] [oQ 4 (.mov (.k (.d (.str []))))])
 (.seq
 (.seq
 (.reg false [0,1,12] [oQ 7 (.mov (.t 0)),
 oQ 8 (.bin .eql (.t 7) (.k (.d (.str [])))),
 oQ 9 (.mov (.t 8)),
 oG 10 9 false (.mov (.t 1)),
 oG 11 9 false (.bin .eql (.t 10) (.k (.d (.str [])))),
 oQ 12 (.pick (.t 9) (kB true) (.t 11))])
 (.cond (.t 12)
 (.seq
 (.reg false [4] [oQ 13 (.mov (.t 0)),
 oQ 4 (.mov (.t 13))])
 .ret)
 .skip))
 (.seq
 (.seq
 (.reg false [0,1,21] [oQ 14 (.mov (.t 1)),
 oQ 15 (.len true (.t 14)),
 oQ 16 (.bin .eql (.t 15) (kI 1)),
 oQ 17 (.mov (.t 16)),
 oG 18 17 true (.mov (.t 1)),
 oG 19 17 true (.ix (.t 18) (kI 0)),
 oG 20 17 true (.bin .lss (.t 19) (.k (.d (.int .u8 128)))),
 oQ 21 (.pick (.t 17) (.t 20) (kB false))])
 (.cond (.t 21)
 (.seq
 (.reg true [4] [oQ 22 (.mov (.t 0)),
 oQ 23 (.mov (.t 1)),
 oQ 24 (.ix (.t 23) (kI 0)),
 oQ 25 (.callP 123 [(.t 22),(.t 24)]),
 oQ 26 (.mov (.t 1)),
 oQ 27 (.ix (.t 26) (kI 0)),
 oQ 28 (.callP 122 [(.t 25),(.t 27)]),
 oQ 4 (.mov (.t 28))])
 .ret)
 .skip))
 (.seq
 (.seq
 (.reg false [0,1,5,6] [oQ 30 (.mov (.t 1)),
 oX 31 (.call 124 [(.t 30)]),
 oQ 29 (.mov (.t 31)),
 oQ 32 (.ext (.t 29) 0),
 oQ 33 (.ext (.t 29) 1),
 oX 5 (.alloc (.st (eP (List.replicate 256 (.bool false))))),
 oN (.st 256 (.t 5) (.t 32)),
 oQ 6 (.mov (.t 33))])
 (.seq
 (.reg false [0,1,5,34] [oQ 34 (.mov (.t 6))])
 (.cond (.t 34)
 (.seq
 (.reg false [4] [oQ 35 (.mov (.t 0)),
 oX 36 (.call 126 [(.t 35),(.t 5)]),
 oX 37 (.call 125 [(.t 36),(.t 5)]),
 oQ 4 (.mov (.t 37))])
 .ret)
 .skip)))
 (.seq
 (.reg false [4] [oQ 38 (.mov (.t 0)),
 oQ 39 (.mov (.t 1)),
 oX 40 (.call 128 [(.t 38),(.t 39)]),
 oQ 41 (.mov (.t 1)),
 oX 42 (.call 127 [(.t 40),(.t 41)]),
 oQ 4 (.mov (.t 42))])
 .ret)))))
theorem aMS:(Go.Proofs.Tryz.f108).body.bind (comp prog.P (2,(Go.Proofs.Tryz.f108).ntmps) aLs)=some aKy:=by kernel_rfl
theorem aMb:bA prog.P (Go.Proofs.Tryz.f108).results.toList=true:=by kernel_rfl
def aK6:List (Nat×List Nat):=[(0,[0,1]),(1,[0,1,7,8]),(2,[0,1,7,8,9]),(3,[0,1,5,7,8]),(4,[0,1,5,7,8,16]),(5,[4]),(6,[0,1,7,8]),(7,[4])]
def aLq:MC :=
 (.seq
 (.reg false [0,1] [oQ 4 (.mov (kI 0))])
 (.seq
 (.seq
 (.reg false [0,1,7,8] [oQ 6 (.mov (.t 0)),
 oQ 7 (.len false (.t 6)),
 oQ 8 (.mov (kI 0))])
 (.block 0
 (.loop
 (.seq
 (.reg false [0,1,7,8,9] [oQ 9 (.bin .lss (.t 8) (.t 7))])
 (.seq
 (.cond (.t 9)
 .skip
 (.exit 0))
 (.seq
 (.block 1
 (.seq
 (.reg false [0,1,5,7,8] [oQ 10 (.mov (.t 8)),
 oQ 5 (.mov (.t 10))])
 (.seq
 (.reg false [0,1,5,7,8,16] [oQ 11 (.mov (.t 1)),
 oQ 12 (.mov (.t 0)),
 oQ 13 (.mov (.t 5)),
 oQ 14 (.ia 1 (.t 12) (.t 13)),
 oQ 15 (.ld none (.t 14)),
 oX 16 (.callW (.t 11) [(.t 15)])])
 (.cond (.t 16)
 (.seq
 (.reg false [4] [oQ 17 (.mov (.t 5)),
 oQ 4 (.mov (.t 17))])
 .ret)
 .skip))))
 (.reg false [0,1,7,8] [oQ 18 (.bin .add (.t 8) (kI 1)),
 oQ 8 (.mov (.t 18))])))))))
 (.seq
 (.reg false [4] [oQ 4 (.mov (.k (.d (.int .i64 (-1)))))])
 .ret)))
theorem aMr:(Go.Proofs.Tryz.f109).body.bind (comp prog.P (2,(Go.Proofs.Tryz.f109).ntmps) aK6)=some aLq:=by kernel_rfl
theorem aMP:bA prog.P (Go.Proofs.Tryz.f109).results.toList=true:=by kernel_rfl
def aK4:List (Nat×List Nat):=[(0,[0,1,2,3,8]),(1,[0,1,2,3,8,9]),(2,[0,1,2,3,8,9,10]),(3,[0,1,2,3,8,9,10,23]),(4,[0]),(5,[0,1,2,3,8,9,10,29]),(6,[0]),(7,[0,1,2,3,8,9,10,35]),(8,[0,1,2,3,8,9,10]),(9,[0,1,2,3,8,9,10]),(10,[0,1,2,3,8,9,10,11,12]),(11,[0,1,2,3,8,9,10,11,12,50]),(12,[0,1,2,3,8,9,10,11]),(13,[0,1,2,3,8,9,10,11]),(14,[0,1,2,3,8,9,10,11,12]),(15,[0,1,2,3,8,9,10,11,68]),(16,[0,1,2,3,8,9,10,11,72]),(17,[0,1,2,3,8,9,10,11,87]),(18,[0,2,3,8,9,13]),(19,[0,1,2,3,8,9]),(20,[0,1,2,3,10,14,15]),(21,[0,1,2,3,9,10,14]),(22,[0,1,2,3,9,10,14,16,17]),(23,[0,1,2,3,9,14,16,17,18]),(24,[0,1,2,3,9,14,16,17,18,113]),(25,[0,1,2,3,8,9,14]),(26,[0,2,3,8,9,14]),(27,[0,1,2,3,8,9]),(28,[0,1,2,3,8,9,14]),(29,[0,1,3,8,9,14]),(30,[0,1,2,3,8,9])]
def aLE:MC :=
 (.seq
 (.reg false [0,1,2,3,8] [oQ 8 (.mov (kB true))])
 (.seq
 (.reg false [0,1,2,3,8,9] [oQ 9 (.mov (kB true))])
 (.block 0
 (.loop
 (.block 1
 (.seq
 (.reg false [0,1,2,3,8,9,10] [oQ 19 (.mov (.t 2)),
 oQ 20 (.mov (.t 1)),
 oQ 21 (.bin .sub (.t 19) (.t 20)),
 oQ 10 (.mov (.t 21))])
 (.seq
 (.seq
 (.reg false [0,1,2,3,8,9,10,23] [oQ 22 (.mov (.t 10)),
 oQ 23 (.bin .leq (.t 22) (kI 12))])
 (.cond (.t 23)
 (.seq
 (.reg false [0] [oQ 24 (.mov (.t 0)),
 oQ 25 (.mov (.t 1)),
 oQ 26 (.mov (.t 2)),
 oX 27 (.call 137 [(.t 24),(.t 25),(.t 26)])])
 .ret)
 .skip))
 (.seq
 (.seq
 (.reg false [0,1,2,3,8,9,10,29] [oQ 28 (.mov (.t 3)),
 oQ 29 (.bin .eql (.t 28) (kI 0))])
 (.cond (.t 29)
 (.seq
 (.reg false [0] [oQ 30 (.mov (.t 0)),
 oQ 31 (.mov (.t 1)),
 oQ 32 (.mov (.t 2)),
 oX 33 (.call 138 [(.t 30),(.t 31),(.t 32)])])
 .ret)
 .skip))
 (.seq
 (.seq
 (.reg false [0,1,2,3,8,9,10,35] [oQ 34 (.mov (.t 8)),
 oQ 35 (.un .not (.t 34))])
 (.cond (.t 35)
 (.seq
 (.reg false [0,1,2,3,8,9,10] [oQ 36 (.mov (.t 0)),
 oQ 37 (.mov (.t 1)),
 oQ 38 (.mov (.t 2)),
 oX 39 (.call 139 [(.t 36),(.t 37),(.t 38)])])
 (.reg false [0,1,2,3,8,9,10] [oQ 40 (.mov (.t 3)),
 oQ 41 (.bin .sub (.t 40) (kI 1)),
 oQ 3 (.mov (.t 41))]))
 .skip))
 (.seq
 (.reg false [0,1,2,3,8,9,10,11,12] [oQ 43 (.mov (.t 0)),
 oQ 44 (.mov (.t 1)),
 oQ 45 (.mov (.t 2)),
 oX 46 (.call 140 [(.t 43),(.t 44),(.t 45)]),
 oQ 42 (.mov (.t 46)),
 oQ 47 (.ext (.t 42) 0),
 oQ 48 (.ext (.t 42) 1),
 oQ 11 (.mov (.t 47)),
 oQ 12 (.mov (.t 48))])
 (.seq
 (.seq
 (.reg false [0,1,2,3,8,9,10,11,12,50] [oQ 49 (.mov (.t 12)),
 oQ 50 (.bin .eql (.t 49) (kI 2))])
 (.cond (.t 50)
 (.seq
 (.reg false [0,1,2,3,8,9,10,11] [oQ 51 (.mov (.t 0)),
 oQ 52 (.mov (.t 1)),
 oQ 53 (.mov (.t 2)),
 oX 54 (.call 141 [(.t 51),(.t 52),(.t 53)])])
 (.seq
 (.reg false [0,1,2,3,8,9,10,11] [oQ 55 (.mov (.t 2)),
 oQ 56 (.bin .sub (.t 55) (kI 1)),
 oQ 57 (.mov (.t 11)),
 oQ 58 (.mov (.t 1)),
 oQ 59 (.bin .sub (.t 57) (.t 58)),
 oQ 60 (.bin .sub (.t 56) (.t 59)),
 oQ 11 (.mov (.t 60))])
 (.reg false [0,1,2,3,8,9,10,11,12] [oQ 12 (.mov (kI 1))])))
 .skip))
 (.seq
 (.seq
 (.reg false [0,1,2,3,8,9,10,11,68] [oQ 61 (.mov (.t 8)),
 oQ 62 (.mov (.t 61)),
 oG 63 62 true (.mov (.t 9)),
 oQ 64 (.pick (.t 62) (.t 63) (kB false)),
 oQ 65 (.mov (.t 64)),
 oG 66 65 true (.mov (.t 12)),
 oG 67 65 true (.bin .eql (.t 66) (kI 1)),
 oQ 68 (.pick (.t 65) (.t 67) (kB false))])
 (.cond (.t 68)
 (.seq
 (.reg false [0,1,2,3,8,9,10,11,72] [oQ 69 (.mov (.t 0)),
 oQ 70 (.mov (.t 1)),
 oQ 71 (.mov (.t 2)),
 oX 72 (.call 142 [(.t 69),(.t 70),(.t 71)])])
 (.cond (.t 72)
 .ret
 .skip))
 .skip))
 (.seq
 (.seq
 (.reg true [0,1,2,3,8,9,10,11,87] [oQ 73 (.mov (.t 1)),
 oQ 74 (.bin .gtr (.t 73) (kI 0)),
 oQ 75 (.mov (.t 74)),
 oG 76 75 true (.mov (.t 0)),
 oG 77 75 true (.mov (.t 1)),
 oG 78 75 true (.bin .sub (.t 77) (kI 1)),
 oG 79 75 true (.ia 1 (.t 76) (.t 78)),
 oG 80 75 true (.ld none (.t 79)),
 oG 81 75 true (.mov (.t 0)),
 oG 82 75 true (.mov (.t 11)),
 oG 83 75 true (.ia 1 (.t 81) (.t 82)),
 oG 84 75 true (.ld none (.t 83)),
 oG 85 75 true (.callP 143 [(.t 80),(.t 84)]),
 oG 86 75 true (.un .not (.t 85)),
 oQ 87 (.pick (.t 75) (.t 86) (kB false))])
 (.cond (.t 87)
 (.seq
 (.reg false [0,2,3,8,9,13] [oQ 88 (.mov (.t 0)),
 oQ 89 (.mov (.t 1)),
 oQ 90 (.mov (.t 2)),
 oQ 91 (.mov (.t 11)),
 oX 92 (.call 144 [(.t 88),(.t 89),(.t 90),(.t 91)]),
 oQ 13 (.mov (.t 92))])
 (.seq
 (.reg false [0,1,2,3,8,9] [oQ 93 (.mov (.t 13)),
 oQ 1 (.mov (.t 93))])
 (.exit 1)))
 .skip))
 (.seq
 (.reg false [0,1,2,3,10,14,15] [oQ 95 (.mov (.t 0)),
 oQ 96 (.mov (.t 1)),
 oQ 97 (.mov (.t 2)),
 oQ 98 (.mov (.t 11)),
 oX 99 (.call 145 [(.t 95),(.t 96),(.t 97),(.t 98)]),
 oQ 94 (.mov (.t 99)),
 oQ 100 (.ext (.t 94) 0),
 oQ 101 (.ext (.t 94) 1),
 oQ 14 (.mov (.t 100)),
 oQ 15 (.mov (.t 101))])
 (.seq
 (.reg false [0,1,2,3,9,10,14] [oQ 102 (.mov (.t 15)),
 oQ 9 (.mov (.t 102))])
 (.seq
 (.reg false [0,1,2,3,9,10,14,16,17] [oQ 103 (.mov (.t 14)),
 oQ 104 (.mov (.t 1)),
 oQ 105 (.bin .sub (.t 103) (.t 104)),
 oQ 106 (.mov (.t 2)),
 oQ 107 (.mov (.t 14)),
 oQ 108 (.bin .sub (.t 106) (.t 107)),
 oQ 16 (.mov (.t 105)),
 oQ 17 (.mov (.t 108))])
 (.seq
 (.reg false [0,1,2,3,9,14,16,17,18] [oQ 109 (.mov (.t 10)),
 oQ 110 (.bin .quo (.t 109) (kI 8)),
 oQ 18 (.mov (.t 110))])
 (.seq
 (.reg false [0,1,2,3,9,14,16,17,18,113] [oQ 111 (.mov (.t 16)),
 oQ 112 (.mov (.t 17)),
 oQ 113 (.bin .lss (.t 111) (.t 112))])
 (.cond (.t 113)
 (.seq
 (.reg false [0,1,2,3,8,9,14] [oQ 114 (.mov (.t 16)),
 oQ 115 (.mov (.t 18)),
 oQ 116 (.bin .geq (.t 114) (.t 115)),
 oQ 8 (.mov (.t 116))])
 (.seq
 (.reg false [0,2,3,8,9,14] [oQ 117 (.mov (.t 0)),
 oQ 118 (.mov (.t 1)),
 oQ 119 (.mov (.t 14)),
 oQ 120 (.mov (.t 3)),
 oX 121 (.call 118 [(.t 117),(.t 118),(.t 119),(.t 120)])])
 (.reg false [0,1,2,3,8,9] [oQ 122 (.mov (.t 14)),
 oQ 123 (.bin .add (.t 122) (kI 1)),
 oQ 1 (.mov (.t 123))])))
 (.seq
 (.reg false [0,1,2,3,8,9,14] [oQ 124 (.mov (.t 17)),
 oQ 125 (.mov (.t 18)),
 oQ 126 (.bin .geq (.t 124) (.t 125)),
 oQ 8 (.mov (.t 126))])
 (.seq
 (.reg false [0,1,3,8,9,14] [oQ 127 (.mov (.t 0)),
 oQ 128 (.mov (.t 14)),
 oQ 129 (.bin .add (.t 128) (kI 1)),
 oQ 130 (.mov (.t 2)),
 oQ 131 (.mov (.t 3)),
 oX 132 (.call 118 [(.t 127),(.t 129),(.t 130),(.t 131)])])
 (.reg false [0,1,2,3,8,9] [oQ 133 (.mov (.t 14)),
 oQ 2 (.mov (.t 133))]))))))))))))))))))))))
theorem aN7:(Go.Proofs.Tryz.f118).body.bind (comp prog.P (1,(Go.Proofs.Tryz.f118).ntmps) aK4)=some aLE:=by kernel_rfl
theorem aMQ:bA prog.P (Go.Proofs.Tryz.f118).results.toList=true:=by kernel_rfl
def aLd:List (Nat×List Nat):=[(0,[0]),(1,[2]),(2,[2])]
def aLn:MC :=
 (.seq
 (.reg false [0] [oQ 2 (.mov (kI 0))])
 (.seq
 (.cond (kB false)
 (.seq
 (.reg false [2] [oQ 3 (.mov (.t 0)),
 oQ 4 (.conv .u32 (.t 3)),
 oX 5 (.call 146 [(.t 4)]),
 oQ 2 (.mov (.t 5))])
 .ret)
 .skip)
 (.seq
 (.reg false [2] [oQ 6 (.mov (.t 0)),
 oX 7 (.call 147 [(.t 6)]),
 oQ 2 (.mov (.t 7))])
 .ret)))
theorem aM4:(Go.Proofs.Tryz.f119).body.bind (comp prog.P (1,(Go.Proofs.Tryz.f119).ntmps) aLd)=some aLn:=by kernel_rfl
theorem aML:bA prog.P (Go.Proofs.Tryz.f119).results.toList=true:=by kernel_rfl
def aLb:List (Nat×List Nat):=[(0,[0]),(1,[2])]
def aLw:MC :=
 (.seq
 (.reg false [0] [oQ 2 (.mov (kB false))])
 (.seq
 (.reg false [2] [oQ 3 (.mov (.t 0)),
 oQ 4 (.bin .geq (.t 3) (.k (.d (.int .u8 97)))),
 oQ 5 (.mov (.t 4)),
 oG 6 5 true (.mov (.t 0)),
 oG 7 5 true (.bin .leq (.t 6) (.k (.d (.int .u8 122)))),
 oQ 8 (.pick (.t 5) (.t 7) (kB false)),
 oQ 2 (.mov (.t 8))])
 .ret))
theorem aMF:(Go.Proofs.Tryz.f121).body.bind (comp prog.P (1,(Go.Proofs.Tryz.f121).ntmps) aLb)=some aLw:=by kernel_rfl
theorem aMt:bA prog.P (Go.Proofs.Tryz.f121).results.toList=true:=by kernel_rfl
def aKp:List (Nat×List Nat):=[(0,[0,1]),(1,[0,1,7]),(2,[0,1,12]),(3,[0,1]),(4,[4])]
def aLB:MC :=
 (.seq
 (.reg false [0,1] [oQ 4 (.mov (.k (.d (.str []))))])
 (.seq
 (.block 0
 (.loop
 (.seq
 (.seq
 (.reg false [0,1,7] [oQ 5 (.mov (.t 0)),
 oQ 6 (.len true (.t 5)),
 oQ 7 (.bin .gtr (.t 6) (kI 0))])
 (.cond (.t 7)
 .skip
 (.exit 0)))
 (.block 1
 (.seq
 (.seq
 (.reg false [0,1,12] [oQ 8 (.mov (.t 1)),
 oQ 9 (.mov (.t 0)),
 oQ 10 (.ix (.t 9) (kI 0)),
 oX 11 (.call 148 [(.t 8),(.t 10)]),
 oQ 12 (.un .not (.t 11))])
 (.cond (.t 12)
 (.exit 0)
 .skip))
 (.reg false [0,1] [oQ 13 (.mov (.t 0)),
 oQ 14 (.sls (.t 13) (some (kI 1)) none),
 oQ 0 (.mov (.t 14))]))))))
 (.seq
 (.reg false [4] [oQ 15 (.mov (.t 0)),
 oQ 4 (.mov (.t 15))])
 .ret)))
theorem aNw:(Go.Proofs.Tryz.f125).body.bind (comp prog.P (0,(Go.Proofs.Tryz.f125).ntmps) aKp)=some aLB:=by kernel_rfl
theorem aND:bA prog.P (Go.Proofs.Tryz.f125).results.toList=true:=by kernel_rfl
def aKX:List (Nat×List Nat):=[(0,[0,1]),(1,[0,1,7]),(2,[0,1,15]),(3,[0,1]),(4,[4])]
def aLe:MC :=
 (.seq
 (.reg false [0,1] [oQ 4 (.mov (.k (.d (.str []))))])
 (.seq
 (.block 0
 (.loop
 (.seq
 (.seq
 (.reg false [0,1,7] [oQ 5 (.mov (.t 0)),
 oQ 6 (.len true (.t 5)),
 oQ 7 (.bin .gtr (.t 6) (kI 0))])
 (.cond (.t 7)
 .skip
 (.exit 0)))
 (.block 1
 (.seq
 (.seq
 (.reg false [0,1,15] [oQ 8 (.mov (.t 1)),
 oQ 9 (.mov (.t 0)),
 oQ 10 (.mov (.t 0)),
 oQ 11 (.len true (.t 10)),
 oQ 12 (.bin .sub (.t 11) (kI 1)),
 oQ 13 (.ix (.t 9) (.t 12)),
 oX 14 (.call 148 [(.t 8),(.t 13)]),
 oQ 15 (.un .not (.t 14))])
 (.cond (.t 15)
 (.exit 0)
 .skip))
 (.reg false [0,1] [oQ 16 (.mov (.t 0)),
 oQ 17 (.mov (.t 0)),
 oQ 18 (.len true (.t 17)),
 oQ 19 (.bin .sub (.t 18) (kI 1)),
 oQ 20 (.sls (.t 16) none (some (.t 19))),
 oQ 0 (.mov (.t 20))]))))))
 (.seq
 (.reg false [4] [oQ 21 (.mov (.t 0)),
 oQ 4 (.mov (.t 21))])
 .ret)))
theorem aNQ:(Go.Proofs.Tryz.f126).body.bind (comp prog.P (0,(Go.Proofs.Tryz.f126).ntmps) aKX)=some aLe:=by kernel_rfl
theorem aME:bA prog.P (Go.Proofs.Tryz.f126).results.toList=true:=by kernel_rfl
def aKR:List (Nat×List Nat):=[(0,[0,1,2,6]),(1,[0,1,2,6,12]),(2,[0,1,2,6]),(3,[0,1,2,6,7]),(4,[0,1,2,6,7,30]),(5,[0,1,2,6,7]),(6,[0,1,2,6,7]),(1000006,[3,15,16,17,1,0,1,1,1,2,1,3,1,4,1,5,1,6,1,7,1,8,1,9,1,10,1,11,1,12,1,13,1,14,2,15,2,16,2,17,0])]
def aLo:MC :=
 (.seq
 (.reg false [0,1,2,6] [oQ 8 (.mov (.t 1)),
 oQ 9 (.bin .add (.t 8) (kI 1)),
 oQ 6 (.mov (.t 9))])
 (.block 0
 (.loop
 (.seq
 (.seq
 (.reg false [0,1,2,6,12] [oQ 10 (.mov (.t 6)),
 oQ 11 (.mov (.t 2)),
 oQ 12 (.bin .lss (.t 10) (.t 11))])
 (.cond (.t 12)
 .skip
 (.exit 0)))
 (.seq
 (.block 1
 (.seq
 (.reg false [0,1,2,6,7] [oQ 15 (.mov (.t 6)),
 oQ 7 (.mov (.t 15))])
 (.block 2
 (.loop
 (.seq
 (.seq
 (.reg true [0,1,2,6,7,30] [oQ 16 (.mov (.t 7)),
 oQ 17 (.mov (.t 1)),
 oQ 18 (.bin .gtr (.t 16) (.t 17)),
 oQ 19 (.mov (.t 18)),
 oG 20 19 true (.mov (.t 0)),
 oG 21 19 true (.mov (.t 7)),
 oG 22 19 true (.ia 1 (.t 20) (.t 21)),
 oG 23 19 true (.ld none (.t 22)),
 oG 24 19 true (.mov (.t 0)),
 oG 25 19 true (.mov (.t 7)),
 oG 26 19 true (.bin .sub (.t 25) (kI 1)),
 oG 27 19 true (.ia 1 (.t 24) (.t 26)),
 oG 28 19 true (.ld none (.t 27)),
 oG 29 19 true (.callP 143 [(.t 23),(.t 28)]),
 oQ 30 (.pick (.t 19) (.t 29) (kB false))])
 (.cond (.t 30)
 .skip
 (.exit 2)))
 (.seq
 (.block 3
 (.any [15,16,17] [0,1,2,6,7] (.q 0 (oQ 33 (.mov (.t 0))) (.q 1 (oQ 34 (.mov (.t 7))) (.q 2 (oQ 35 (.mov (.t 0))) (.q 3 (oQ 36 (.mov (.t 7))) (.q 4 (oQ 37 (.bin .sub (.t 36) (kI 1))) (.q 5 (oQ 38 (.mov (.t 0))) (.q 6 (oQ 39 (.mov (.t 7))) (.q 7 (oQ 40 (.bin .sub (.t 39) (kI 1))) (.q 8 (oQ 41 (.ia 1 (.t 38) (.t 40))) (.q 9 (oQ 42 (.ld none (.t 41))) (.q 10 (oQ 43 (.mov (.t 0))) (.q 11 (oQ 44 (.mov (.t 7))) (.q 12 (oQ 45 (.ia 1 (.t 43) (.t 44))) (.q 13 (oQ 46 (.ld none (.t 45))) (.q 14 (oQ 47 (.ia 1 (.t 33) (.t 34))) (.e 15 (oN (.st 1 (.t 47) (.t 42))) (.e 16 (oQ 48 (.ia 1 (.t 35) (.t 37))) (.e 17 (oN (.st 1 (.t 48) (.t 46))) .done))))))))))))))))))))
 (.reg false [0,1,2,6,7] [oQ 31 (.mov (.t 7)),
 oQ 32 (.bin .sub (.t 31) (kI 1)),
 oQ 7 (.mov (.t 32))])))))))
 (.reg false [0,1,2,6] [oQ 13 (.mov (.t 6)),
 oQ 14 (.bin .add (.t 13) (kI 1)),
 oQ 6 (.mov (.t 14))]))))))
theorem aN0:(Go.Proofs.Tryz.f137).body.bind (comp prog.P (3,(Go.Proofs.Tryz.f137).ntmps) aKR)=some aLo:=by kernel_rfl
theorem aNP:bA prog.P (Go.Proofs.Tryz.f137).results.toList=true:=by kernel_rfl
def aKJ:List (Nat×List Nat):=[(0,[0,1]),(1,[4])]
def aLC:MC :=
 (.seq
 (.reg false [0,1] [oQ 4 (.mov (kB false))])
 (.seq
 (.reg false [4] [oQ 5 (.mov (.t 0)),
 oX 6 (.call 161 [(.t 5)]),
 oQ 7 (.mov (.t 6)),
 oG 8 7 true (.mov (.t 1)),
 oH 9 7 true (.call 161 [(.t 8)]),
 oG 10 7 true (.un .not (.t 9)),
 oQ 11 (.pick (.t 7) (.t 10) (kB false)),
 oQ 12 (.mov (.t 11)),
 oG 13 12 false (.mov (.t 0)),
 oG 14 12 false (.mov (.t 1)),
 oG 15 12 false (.bin .lss (.t 13) (.t 14)),
 oQ 16 (.pick (.t 12) (kB true) (.t 15)),
 oQ 4 (.mov (.t 16))])
 .ret))
theorem aNY:(Go.Proofs.Tryz.f143).body.bind (comp prog.P (2,(Go.Proofs.Tryz.f143).ntmps) aKJ)=some aLC:=by kernel_rfl
theorem aL9:bA prog.P (Go.Proofs.Tryz.f143).results.toList=true:=by kernel_rfl
end Go.Pe.Tryz
