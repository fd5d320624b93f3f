/-
The compact code of the functions that the law reaches,printed by gen.py,each with the proof that the machine's code is compiled to it.
-/
import Derived.Test.YtmkmjcgkcpmmpaaGreatDoorMc1
import Derived.Test.YtmkmjcgkcpmmpaaGreatDoorProg
import Derived.KernelRfl
set_option maxRecDepth 100000
namespace Go.Pe.Tryz
open Go.Pe
def aRS:List (Nat×List Nat):=[(0,[0,2]),(1,[0,2,3]),(2,[0,2,3,5]),(3,[0,2,3,5,18]),(4,[0,2,3,5]),(5,[0,2,3,5,6,7]),(6,[0,2,3,5,6,29]),(7,[0,2,3,5]),(8,[0,2,3,32]),(9,[0,2,3,32,33]),(10,[0,2,3]),(11,[0,2,3,32,39]),(12,[0,2,3]),(13,[0,2,3,32,59]),(14,[0,2,3,67]),(15,[0,2,3]),(16,[0,2,3,73]),(17,[0,2,3]),(18,[0,2]),(1000005,[2,9,10,1,1,3,2,0,3,2,2,3,2,3,3,2,4,1,5,1,6,1,7,2,8,2,9,2,10,0,2,8,2,4,1,5,1,6,1,7,2,9,2,10,0,2,8,2,3,2,4,1,5,1,6,1,7,2,9,2,10,0,2,8,2,2,2,3,2,4,1,5,1,6,1,7,2,9,2,10,0,3,2,2,3,2,0,3,2,3,3,2,4,1,5,1,6,1,7,2,8,2,9,2,10,0,2,8,2,4,1,5,1,6,1,7,2,9,2,10,0,2,8,2,3,2,4,1,5,1,6,1,7,2,9,2,10,0,3,2,3,3,2,0,3,2,4,1,5,1,6,1,7,2,8,2,9,2,10,0,2,8,2,4,1,5,1,6,1,7,2,9,2,10,0,2,8,2,0,2,4,1,5,1,6,1,7,2,9,2,10,0,2,8,3,2,0,2,3,2,4,1,5,1,6,1,7,2,9,2,10,0,2,3,2,0,2,4,1,5,1,6,1,7,2,9,2,10,0,2,8,3,2,0,2,2,2,3,2,4,1,5,1,6,1,7,2,9,2,10,0,2,2,3,2,0,2,3,2,4,1,5,1,6,1,7,2,9,2,10,0,2,3,2,0,2,4,1,5,1,6,1,7,2,9,2,10,0]),(1000012,[1,18,1,0,1,1,1,2,1,5,1,7,1,10,3,2,3,3,2,4,3,2,6,3,2,8,3,2,9,2,11,2,12,2,13,2,14,2,15,2,16,1,17,2,18,0,2,11,2,9,2,12,2,13,2,14,2,15,2,16,1,17,2,18,0,2,11,2,8,2,9,2,12,2,13,2,14,2,15,2,16,1,17,2,18,0,3,2,8,3,2,6,3,2,9,2,11,2,12,2,13,2,14,2,15,2,16,1,17,2,18,0,2,11,2,9,2,12,2,13,2,14,2,15,2,16,1,17,2,18,0,2,11,2,6,2,9,2,12,2,13,2,14,2,15,2,16,1,17,2,18,0,2,11,3,2,6,2,8,2,9,2,12,2,13,2,14,2,15,2,16,1,17,2,18,0,2,8,2,6,2,9,2,12,2,13,2,14,2,15,2,16,1,17,2,18,0,3,2,8,3,2,4,3,2,6,3,2,9,2,11,2,12,2,13,2,14,2,15,2,16,1,17,2,18,0,2,11,2,9,2,12,2,13,2,14,2,15,2,16,1,17,2,18,0,2,11,2,6,2,9,2,12,2,13,2,14,2,15,2,16,1,17,2,18,0,2,11,2,4,2,6,2,9,2,12,2,13,2,14,2,15,2,16,1,17,2,18,0,2,11,3,2,4,3,2,6,2,8,2,9,2,12,2,13,2,14,2,15,2,16,1,17,2,18,0,2,8,2,6,2,9,2,12,2,13,2,14,2,15,2,16,1,17,2,18,0,2,8,2,4,2,6,2,9,2,12,2,13,2,14,2,15,2,16,1,17,2,18,0,3,2,8,3,2,3,3,2,4,3,2,6,3,2,9,2,11,2,12,2,13,2,14,2,15,2,16,1,17,2,18,0,2,11,2,9,2,12,2,13,2,14,2,15,2,16,1,17,2,18,0,2,11,2,6,2,9,2,12,2,13,2,14,2,15,2,16,1,17,2,18,0,2,11,2,4,2,6,2,9,2,12,2,13,2,14,2,15,2,16,1,17,2,18,0,2,11,2,3,2,4,2,6,2,9,2,12,2,13,2,14,2,15,2,16,1,17,2,18,0,2,11,3,2,3,3,2,4,3,2,6,2,8,2,9,2,12,2,13,2,14,2,15,2,16,1,17,2,18,0,2,8,2,6,2,9,2,12,2,13,2,14,2,15,2,16,1,17,2,18,0,2,8,2,4,2,6,2,9,2,12,2,13,2,14,2,15,2,16,1,17,2,18,0,2,8,2,3,2,4,2,6,2,9,2,12,2,13,2,14,2,15,2,16,1,17,2,18,0]),(1000014,[0,1,0,1,1,1,2,1,3,2,4,1,5,1,6,0])]
def m35:MC :=
 (.seq
 (.reg false [0,2] [oX 2 (.alloc (.st (.cons (.int .i64 0) (.cons (.sl true 4 .nil) (.cons (.int .i64 0) (.cons (.int .i64 0) (.cons (.sl true 1 .nil) .nil)))))))])
 (.seq
 (.reg false [0,2,3] [oQ 9 (.mov (.t 0)),
 oX 10 (.bs 1 4 (.int .i64 0) [(0,(kI 0)),(1,(kI 0)),(2,(kI 100)),(3,(kI 19980))]),
 oX 11 (.call 56 [(.t 9),(.t 10)]),
 oX 12 (.call 20 [(.t 11)]),
 oQ 8 (.mov (.t 12)),
 oQ 13 (.ext (.t 8) 0),
 oQ 14 (.ext (.t 8) 1),
 oX 3 (.alloc (.st (.cons (.int .i64 0) (.cons (.sl true 4 .nil) (.cons (.int .i64 0) (.cons (.int .i64 0) (.cons (.sl true 1 .nil) .nil))))))),
 oN (.st 5 (.t 3) (.t 13)),
 oQ 4 (.mov (.t 14))])
 (.seq
 (.seq
 (.reg false [0,2,3,5] [oQ 15 (.mov (.t 0)),
 oX 16 (.call 50 [(.t 15),(kI 30)]),
 oQ 5 (.mov (.t 16))])
 (.block 0
 (.loop
 (.seq
 (.seq
 (.reg false [0,2,3,5,18] [oQ 17 (.mov (.t 5)),
 oQ 18 (.bin .gtr (.t 17) (kI 0))])
 (.cond (.t 18)
 .skip
 (.exit 0)))
 (.seq
 (.block 1
 (.seq
 (.any [9,10] [0,2,3,5,6,7] (.q 1 (oQ 23 (.mov (.t 0))) (.br (.e 0 (oQ 22 (.ldv 5 (.t 3))) (.br (.e 2 (oQ 24 (.ldv 5 (.t 3))) (.br (.e 3 (oX 25 (.call 36 [(.t 23),(.t 24)])) (.br (.e 4 (oX 26 (.call 8 [(.t 22),(.t 25)])) (.q 5 (oQ 21 (.mov (.t 26))) (.q 6 (oQ 27 (.ext (.t 21) 0)) (.q 7 (oQ 28 (.ext (.t 21) 1)) (.e 8 (oX 6 (.alloc (.st (.cons (.int .i64 0) (.cons (.sl true 4 .nil) (.cons (.int .i64 0) (.cons (.int .i64 0) (.cons (.sl true 1 .nil) .nil)))))))) (.e 9 (oN (.st 5 (.t 6) (.t 27))) (.e 10 (oQ 7 (.mov (.t 28))) .done)))))))
 (.e 8 (oX 6 (.alloc (.st (.cons (.int .i64 0) (.cons (.sl true 4 .nil) (.cons (.int .i64 0) (.cons (.int .i64 0) (.cons (.sl true 1 .nil) .nil)))))))) (.e 4 (oX 26 (.call 8 [(.t 22),(.t 25)])) (.q 5 (oQ 21 (.mov (.t 26))) (.q 6 (oQ 27 (.ext (.t 21) 0)) (.q 7 (oQ 28 (.ext (.t 21) 1)) (.e 9 (oN (.st 5 (.t 6) (.t 27))) (.e 10 (oQ 7 (.mov (.t 28))) .done)))))))))
 (.e 8 (oX 6 (.alloc (.st (.cons (.int .i64 0) (.cons (.sl true 4 .nil) (.cons (.int .i64 0) (.cons (.int .i64 0) (.cons (.sl true 1 .nil) .nil)))))))) (.e 3 (oX 25 (.call 36 [(.t 23),(.t 24)])) (.e 4 (oX 26 (.call 8 [(.t 22),(.t 25)])) (.q 5 (oQ 21 (.mov (.t 26))) (.q 6 (oQ 27 (.ext (.t 21) 0)) (.q 7 (oQ 28 (.ext (.t 21) 1)) (.e 9 (oN (.st 5 (.t 6) (.t 27))) (.e 10 (oQ 7 (.mov (.t 28))) .done))))))))))
 (.e 8 (oX 6 (.alloc (.st (.cons (.int .i64 0) (.cons (.sl true 4 .nil) (.cons (.int .i64 0) (.cons (.int .i64 0) (.cons (.sl true 1 .nil) .nil)))))))) (.e 2 (oQ 24 (.ldv 5 (.t 3))) (.e 3 (oX 25 (.call 36 [(.t 23),(.t 24)])) (.e 4 (oX 26 (.call 8 [(.t 22),(.t 25)])) (.q 5 (oQ 21 (.mov (.t 26))) (.q 6 (oQ 27 (.ext (.t 21) 0)) (.q 7 (oQ 28 (.ext (.t 21) 1)) (.e 9 (oN (.st 5 (.t 6) (.t 27))) (.e 10 (oQ 7 (.mov (.t 28))) .done)))))))))))
 (.br (.e 2 (oQ 24 (.ldv 5 (.t 3))) (.br (.e 0 (oQ 22 (.ldv 5 (.t 3))) (.br (.e 3 (oX 25 (.call 36 [(.t 23),(.t 24)])) (.br (.e 4 (oX 26 (.call 8 [(.t 22),(.t 25)])) (.q 5 (oQ 21 (.mov (.t 26))) (.q 6 (oQ 27 (.ext (.t 21) 0)) (.q 7 (oQ 28 (.ext (.t 21) 1)) (.e 8 (oX 6 (.alloc (.st (.cons (.int .i64 0) (.cons (.sl true 4 .nil) (.cons (.int .i64 0) (.cons (.int .i64 0) (.cons (.sl true 1 .nil) .nil)))))))) (.e 9 (oN (.st 5 (.t 6) (.t 27))) (.e 10 (oQ 7 (.mov (.t 28))) .done)))))))
 (.e 8 (oX 6 (.alloc (.st (.cons (.int .i64 0) (.cons (.sl true 4 .nil) (.cons (.int .i64 0) (.cons (.int .i64 0) (.cons (.sl true 1 .nil) .nil)))))))) (.e 4 (oX 26 (.call 8 [(.t 22),(.t 25)])) (.q 5 (oQ 21 (.mov (.t 26))) (.q 6 (oQ 27 (.ext (.t 21) 0)) (.q 7 (oQ 28 (.ext (.t 21) 1)) (.e 9 (oN (.st 5 (.t 6) (.t 27))) (.e 10 (oQ 7 (.mov (.t 28))) .done)))))))))
 (.e 8 (oX 6 (.alloc (.st (.cons (.int .i64 0) (.cons (.sl true 4 .nil) (.cons (.int .i64 0) (.cons (.int .i64 0) (.cons (.sl true 1 .nil) .nil)))))))) (.e 3 (oX 25 (.call 36 [(.t 23),(.t 24)])) (.e 4 (oX 26 (.call 8 [(.t 22),(.t 25)])) (.q 5 (oQ 21 (.mov (.t 26))) (.q 6 (oQ 27 (.ext (.t 21) 0)) (.q 7 (oQ 28 (.ext (.t 21) 1)) (.e 9 (oN (.st 5 (.t 6) (.t 27))) (.e 10 (oQ 7 (.mov (.t 28))) .done))))))))))
 (.br (.e 3 (oX 25 (.call 36 [(.t 23),(.t 24)])) (.br (.e 0 (oQ 22 (.ldv 5 (.t 3))) (.br (.e 4 (oX 26 (.call 8 [(.t 22),(.t 25)])) (.q 5 (oQ 21 (.mov (.t 26))) (.q 6 (oQ 27 (.ext (.t 21) 0)) (.q 7 (oQ 28 (.ext (.t 21) 1)) (.e 8 (oX 6 (.alloc (.st (.cons (.int .i64 0) (.cons (.sl true 4 .nil) (.cons (.int .i64 0) (.cons (.int .i64 0) (.cons (.sl true 1 .nil) .nil)))))))) (.e 9 (oN (.st 5 (.t 6) (.t 27))) (.e 10 (oQ 7 (.mov (.t 28))) .done)))))))
 (.e 8 (oX 6 (.alloc (.st (.cons (.int .i64 0) (.cons (.sl true 4 .nil) (.cons (.int .i64 0) (.cons (.int .i64 0) (.cons (.sl true 1 .nil) .nil)))))))) (.e 4 (oX 26 (.call 8 [(.t 22),(.t 25)])) (.q 5 (oQ 21 (.mov (.t 26))) (.q 6 (oQ 27 (.ext (.t 21) 0)) (.q 7 (oQ 28 (.ext (.t 21) 1)) (.e 9 (oN (.st 5 (.t 6) (.t 27))) (.e 10 (oQ 7 (.mov (.t 28))) .done)))))))))
 (.e 8 (oX 6 (.alloc (.st (.cons (.int .i64 0) (.cons (.sl true 4 .nil) (.cons (.int .i64 0) (.cons (.int .i64 0) (.cons (.sl true 1 .nil) .nil)))))))) (.e 0 (oQ 22 (.ldv 5 (.t 3))) (.e 4 (oX 26 (.call 8 [(.t 22),(.t 25)])) (.q 5 (oQ 21 (.mov (.t 26))) (.q 6 (oQ 27 (.ext (.t 21) 0)) (.q 7 (oQ 28 (.ext (.t 21) 1)) (.e 9 (oN (.st 5 (.t 6) (.t 27))) (.e 10 (oQ 7 (.mov (.t 28))) .done))))))))))
 (.e 8 (oX 6 (.alloc (.st (.cons (.int .i64 0) (.cons (.sl true 4 .nil) (.cons (.int .i64 0) (.cons (.int .i64 0) (.cons (.sl true 1 .nil) .nil)))))))) (.br (.e 0 (oQ 22 (.ldv 5 (.t 3))) (.e 3 (oX 25 (.call 36 [(.t 23),(.t 24)])) (.e 4 (oX 26 (.call 8 [(.t 22),(.t 25)])) (.q 5 (oQ 21 (.mov (.t 26))) (.q 6 (oQ 27 (.ext (.t 21) 0)) (.q 7 (oQ 28 (.ext (.t 21) 1)) (.e 9 (oN (.st 5 (.t 6) (.t 27))) (.e 10 (oQ 7 (.mov (.t 28))) .done))))))))
 (.e 3 (oX 25 (.call 36 [(.t 23),(.t 24)])) (.e 0 (oQ 22 (.ldv 5 (.t 3))) (.e 4 (oX 26 (.call 8 [(.t 22),(.t 25)])) (.q 5 (oQ 21 (.mov (.t 26))) (.q 6 (oQ 27 (.ext (.t 21) 0)) (.q 7 (oQ 28 (.ext (.t 21) 1)) (.e 9 (oN (.st 5 (.t 6) (.t 27))) (.e 10 (oQ 7 (.mov (.t 28))) .done)))))))))))))
 (.e 8 (oX 6 (.alloc (.st (.cons (.int .i64 0) (.cons (.sl true 4 .nil) (.cons (.int .i64 0) (.cons (.int .i64 0) (.cons (.sl true 1 .nil) .nil)))))))) (.br (.e 0 (oQ 22 (.ldv 5 (.t 3))) (.e 2 (oQ 24 (.ldv 5 (.t 3))) (.e 3 (oX 25 (.call 36 [(.t 23),(.t 24)])) (.e 4 (oX 26 (.call 8 [(.t 22),(.t 25)])) (.q 5 (oQ 21 (.mov (.t 26))) (.q 6 (oQ 27 (.ext (.t 21) 0)) (.q 7 (oQ 28 (.ext (.t 21) 1)) (.e 9 (oN (.st 5 (.t 6) (.t 27))) (.e 10 (oQ 7 (.mov (.t 28))) .done)))))))))
 (.e 2 (oQ 24 (.ldv 5 (.t 3))) (.br (.e 0 (oQ 22 (.ldv 5 (.t 3))) (.e 3 (oX 25 (.call 36 [(.t 23),(.t 24)])) (.e 4 (oX 26 (.call 8 [(.t 22),(.t 25)])) (.q 5 (oQ 21 (.mov (.t 26))) (.q 6 (oQ 27 (.ext (.t 21) 0)) (.q 7 (oQ 28 (.ext (.t 21) 1)) (.e 9 (oN (.st 5 (.t 6) (.t 27))) (.e 10 (oQ 7 (.mov (.t 28))) .done))))))))
 (.e 3 (oX 25 (.call 36 [(.t 23),(.t 24)])) (.e 0 (oQ 22 (.ldv 5 (.t 3))) (.e 4 (oX 26 (.call 8 [(.t 22),(.t 25)])) (.q 5 (oQ 21 (.mov (.t 26))) (.q 6 (oQ 27 (.ext (.t 21) 0)) (.q 7 (oQ 28 (.ext (.t 21) 1)) (.e 9 (oN (.st 5 (.t 6) (.t 27))) (.e 10 (oQ 7 (.mov (.t 28))) .done))))))))))))))))
 (.seq
 (.reg false [0,2,3,5,6,29] [oQ 29 (.mov (.t 7))])
 (.cond (.t 29)
 (.reg false [0,2,3,5] [oQ 30 (.ldv 5 (.t 6)),
 oN (.st 5 (.t 3) (.t 30))])
 .skip))))
 (.reg false [0,2,3,5] [oQ 19 (.mov (.t 5)),
 oQ 20 (.bin .sub (.t 19) (kI 1)),
 oQ 5 (.mov (.t 20))]))))))
 (.seq
 (.seq
 (.reg false [0,2,3,32] [oQ 31 (.mov (.t 0)),
 oX 32 (.call 50 [(.t 31),(kI 32)])])
 (.block 2
 (.seq
 (.reg false [0,2,3,32,33] [oQ 34 (.bin .eql (.t 32) (kI 0)),
 oQ 33 (.mov (.t 34))])
 (.cond (.t 33)
 (.reg false [0,2,3] [oQ 35 (.mov (.t 0)),
 oX 36 (.bs 1 3 (.int .i64 0) [(0,(.k (.d (.int .i64 (-1))))),(1,(kI 0)),(2,(kI 20001))]),
 oX 37 (.call 56 [(.t 35),(.t 36)]),
 oQ 38 (.fa 0 0 (.t 3)),
 oN (.st 1 (.t 38) (.t 37))])
 (.seq
 (.reg false [0,2,3,32,39] [oQ 40 (.bin .eql (.t 32) (kI 1)),
 oQ 39 (.mov (.t 40))])
 (.cond (.t 39)
 (.any [18] [0,2,3] (.q 0 (oQ 41 (.fa 1 1 (.t 3))) (.q 1 (oQ 42 (.ld none (.t 41))) (.q 2 (oQ 43 (.mov (.t 0))) (.q 5 (oQ 46 (.mov (.t 0))) (.q 7 (oQ 48 (.mov (.t 0))) (.q 10 (oQ 51 (.mov (.t 0))) (.br (.e 3 (oX 44 (.bs 1 3 (.int .i64 0) [(0,(kI 0)),(1,(kI 1)),(2,(kI 999))])) (.br (.e 4 (oX 45 (.call 56 [(.t 43),(.t 44)])) (.br (.e 6 (oX 47 (.call 50 [(.t 46),(kI 5)])) (.br (.e 8 (oX 49 (.bs 1 2 (.int .i64 0) [(0,(kI 0)),(1,(kI 20001))])) (.br (.e 9 (oX 50 (.call 56 [(.t 48),(.t 49)])) (.e 11 (oX 52 (.bs 1 3 (.int .i64 0) [(0,(kI 0)),(1,(kI 1)),(2,(kI 10))])) (.e 12 (oX 53 (.call 56 [(.t 51),(.t 52)])) (.e 13 (oX 54 (.bs 1 1 (.int .i64 0) [(0,(.t 53))])) (.e 14 (oX 55 (.bld (.cons (.int .i64 0) (.cons (.int .i64 0) (.cons (.int .i64 0) (.cons (.sl true 1 .nil) .nil)))) [(0,(.t 45)),(1,(.t 47)),(2,(.t 50)),(3,(.t 54))])) (.e 15 (oX 56 (.bs 4 1 (.st (.cons (.int .i64 0) (.cons (.int .i64 0) (.cons (.int .i64 0) (.cons (.sl true 1 .nil) .nil))))) [(0,(.t 55))])) (.e 16 (oX 57 (.app 4 48 (.t 42) (.t 56))) (.q 17 (oQ 58 (.fa 1 1 (.t 3))) (.e 18 (oN (.st 1 (.t 58) (.t 57))) .done)))))))))
 (.e 11 (oX 52 (.bs 1 3 (.int .i64 0) [(0,(kI 0)),(1,(kI 1)),(2,(kI 10))])) (.e 9 (oX 50 (.call 56 [(.t 48),(.t 49)])) (.e 12 (oX 53 (.call 56 [(.t 51),(.t 52)])) (.e 13 (oX 54 (.bs 1 1 (.int .i64 0) [(0,(.t 53))])) (.e 14 (oX 55 (.bld (.cons (.int .i64 0) (.cons (.int .i64 0) (.cons (.int .i64 0) (.cons (.sl true 1 .nil) .nil)))) [(0,(.t 45)),(1,(.t 47)),(2,(.t 50)),(3,(.t 54))])) (.e 15 (oX 56 (.bs 4 1 (.st (.cons (.int .i64 0) (.cons (.int .i64 0) (.cons (.int .i64 0) (.cons (.sl true 1 .nil) .nil))))) [(0,(.t 55))])) (.e 16 (oX 57 (.app 4 48 (.t 42) (.t 56))) (.q 17 (oQ 58 (.fa 1 1 (.t 3))) (.e 18 (oN (.st 1 (.t 58) (.t 57))) .done)))))))))))
 (.e 11 (oX 52 (.bs 1 3 (.int .i64 0) [(0,(kI 0)),(1,(kI 1)),(2,(kI 10))])) (.e 8 (oX 49 (.bs 1 2 (.int .i64 0) [(0,(kI 0)),(1,(kI 20001))])) (.e 9 (oX 50 (.call 56 [(.t 48),(.t 49)])) (.e 12 (oX 53 (.call 56 [(.t 51),(.t 52)])) (.e 13 (oX 54 (.bs 1 1 (.int .i64 0) [(0,(.t 53))])) (.e 14 (oX 55 (.bld (.cons (.int .i64 0) (.cons (.int .i64 0) (.cons (.int .i64 0) (.cons (.sl true 1 .nil) .nil)))) [(0,(.t 45)),(1,(.t 47)),(2,(.t 50)),(3,(.t 54))])) (.e 15 (oX 56 (.bs 4 1 (.st (.cons (.int .i64 0) (.cons (.int .i64 0) (.cons (.int .i64 0) (.cons (.sl true 1 .nil) .nil))))) [(0,(.t 55))])) (.e 16 (oX 57 (.app 4 48 (.t 42) (.t 56))) (.q 17 (oQ 58 (.fa 1 1 (.t 3))) (.e 18 (oN (.st 1 (.t 58) (.t 57))) .done))))))))))))
 (.br (.e 8 (oX 49 (.bs 1 2 (.int .i64 0) [(0,(kI 0)),(1,(kI 20001))])) (.br (.e 6 (oX 47 (.call 50 [(.t 46),(kI 5)])) (.br (.e 9 (oX 50 (.call 56 [(.t 48),(.t 49)])) (.e 11 (oX 52 (.bs 1 3 (.int .i64 0) [(0,(kI 0)),(1,(kI 1)),(2,(kI 10))])) (.e 12 (oX 53 (.call 56 [(.t 51),(.t 52)])) (.e 13 (oX 54 (.bs 1 1 (.int .i64 0) [(0,(.t 53))])) (.e 14 (oX 55 (.bld (.cons (.int .i64 0) (.cons (.int .i64 0) (.cons (.int .i64 0) (.cons (.sl true 1 .nil) .nil)))) [(0,(.t 45)),(1,(.t 47)),(2,(.t 50)),(3,(.t 54))])) (.e 15 (oX 56 (.bs 4 1 (.st (.cons (.int .i64 0) (.cons (.int .i64 0) (.cons (.int .i64 0) (.cons (.sl true 1 .nil) .nil))))) [(0,(.t 55))])) (.e 16 (oX 57 (.app 4 48 (.t 42) (.t 56))) (.q 17 (oQ 58 (.fa 1 1 (.t 3))) (.e 18 (oN (.st 1 (.t 58) (.t 57))) .done)))))))))
 (.e 11 (oX 52 (.bs 1 3 (.int .i64 0) [(0,(kI 0)),(1,(kI 1)),(2,(kI 10))])) (.e 9 (oX 50 (.call 56 [(.t 48),(.t 49)])) (.e 12 (oX 53 (.call 56 [(.t 51),(.t 52)])) (.e 13 (oX 54 (.bs 1 1 (.int .i64 0) [(0,(.t 53))])) (.e 14 (oX 55 (.bld (.cons (.int .i64 0) (.cons (.int .i64 0) (.cons (.int .i64 0) (.cons (.sl true 1 .nil) .nil)))) [(0,(.t 45)),(1,(.t 47)),(2,(.t 50)),(3,(.t 54))])) (.e 15 (oX 56 (.bs 4 1 (.st (.cons (.int .i64 0) (.cons (.int .i64 0) (.cons (.int .i64 0) (.cons (.sl true 1 .nil) .nil))))) [(0,(.t 55))])) (.e 16 (oX 57 (.app 4 48 (.t 42) (.t 56))) (.q 17 (oQ 58 (.fa 1 1 (.t 3))) (.e 18 (oN (.st 1 (.t 58) (.t 57))) .done)))))))))))
 (.e 11 (oX 52 (.bs 1 3 (.int .i64 0) [(0,(kI 0)),(1,(kI 1)),(2,(kI 10))])) (.e 6 (oX 47 (.call 50 [(.t 46),(kI 5)])) (.e 9 (oX 50 (.call 56 [(.t 48),(.t 49)])) (.e 12 (oX 53 (.call 56 [(.t 51),(.t 52)])) (.e 13 (oX 54 (.bs 1 1 (.int .i64 0) [(0,(.t 53))])) (.e 14 (oX 55 (.bld (.cons (.int .i64 0) (.cons (.int .i64 0) (.cons (.int .i64 0) (.cons (.sl true 1 .nil) .nil)))) [(0,(.t 45)),(1,(.t 47)),(2,(.t 50)),(3,(.t 54))])) (.e 15 (oX 56 (.bs 4 1 (.st (.cons (.int .i64 0) (.cons (.int .i64 0) (.cons (.int .i64 0) (.cons (.sl true 1 .nil) .nil))))) [(0,(.t 55))])) (.e 16 (oX 57 (.app 4 48 (.t 42) (.t 56))) (.q 17 (oQ 58 (.fa 1 1 (.t 3))) (.e 18 (oN (.st 1 (.t 58) (.t 57))) .done))))))))))))
 (.e 11 (oX 52 (.bs 1 3 (.int .i64 0) [(0,(kI 0)),(1,(kI 1)),(2,(kI 10))])) (.br (.e 6 (oX 47 (.call 50 [(.t 46),(kI 5)])) (.e 8 (oX 49 (.bs 1 2 (.int .i64 0) [(0,(kI 0)),(1,(kI 20001))])) (.e 9 (oX 50 (.call 56 [(.t 48),(.t 49)])) (.e 12 (oX 53 (.call 56 [(.t 51),(.t 52)])) (.e 13 (oX 54 (.bs 1 1 (.int .i64 0) [(0,(.t 53))])) (.e 14 (oX 55 (.bld (.cons (.int .i64 0) (.cons (.int .i64 0) (.cons (.int .i64 0) (.cons (.sl true 1 .nil) .nil)))) [(0,(.t 45)),(1,(.t 47)),(2,(.t 50)),(3,(.t 54))])) (.e 15 (oX 56 (.bs 4 1 (.st (.cons (.int .i64 0) (.cons (.int .i64 0) (.cons (.int .i64 0) (.cons (.sl true 1 .nil) .nil))))) [(0,(.t 55))])) (.e 16 (oX 57 (.app 4 48 (.t 42) (.t 56))) (.q 17 (oQ 58 (.fa 1 1 (.t 3))) (.e 18 (oN (.st 1 (.t 58) (.t 57))) .done))))))))))
 (.e 8 (oX 49 (.bs 1 2 (.int .i64 0) [(0,(kI 0)),(1,(kI 20001))])) (.e 6 (oX 47 (.call 50 [(.t 46),(kI 5)])) (.e 9 (oX 50 (.call 56 [(.t 48),(.t 49)])) (.e 12 (oX 53 (.call 56 [(.t 51),(.t 52)])) (.e 13 (oX 54 (.bs 1 1 (.int .i64 0) [(0,(.t 53))])) (.e 14 (oX 55 (.bld (.cons (.int .i64 0) (.cons (.int .i64 0) (.cons (.int .i64 0) (.cons (.sl true 1 .nil) .nil)))) [(0,(.t 45)),(1,(.t 47)),(2,(.t 50)),(3,(.t 54))])) (.e 15 (oX 56 (.bs 4 1 (.st (.cons (.int .i64 0) (.cons (.int .i64 0) (.cons (.int .i64 0) (.cons (.sl true 1 .nil) .nil))))) [(0,(.t 55))])) (.e 16 (oX 57 (.app 4 48 (.t 42) (.t 56))) (.q 17 (oQ 58 (.fa 1 1 (.t 3))) (.e 18 (oN (.st 1 (.t 58) (.t 57))) .done)))))))))))))))
 (.br (.e 8 (oX 49 (.bs 1 2 (.int .i64 0) [(0,(kI 0)),(1,(kI 20001))])) (.br (.e 4 (oX 45 (.call 56 [(.t 43),(.t 44)])) (.br (.e 6 (oX 47 (.call 50 [(.t 46),(kI 5)])) (.br (.e 9 (oX 50 (.call 56 [(.t 48),(.t 49)])) (.e 11 (oX 52 (.bs 1 3 (.int .i64 0) [(0,(kI 0)),(1,(kI 1)),(2,(kI 10))])) (.e 12 (oX 53 (.call 56 [(.t 51),(.t 52)])) (.e 13 (oX 54 (.bs 1 1 (.int .i64 0) [(0,(.t 53))])) (.e 14 (oX 55 (.bld (.cons (.int .i64 0) (.cons (.int .i64 0) (.cons (.int .i64 0) (.cons (.sl true 1 .nil) .nil)))) [(0,(.t 45)),(1,(.t 47)),(2,(.t 50)),(3,(.t 54))])) (.e 15 (oX 56 (.bs 4 1 (.st (.cons (.int .i64 0) (.cons (.int .i64 0) (.cons (.int .i64 0) (.cons (.sl true 1 .nil) .nil))))) [(0,(.t 55))])) (.e 16 (oX 57 (.app 4 48 (.t 42) (.t 56))) (.q 17 (oQ 58 (.fa 1 1 (.t 3))) (.e 18 (oN (.st 1 (.t 58) (.t 57))) .done)))))))))
 (.e 11 (oX 52 (.bs 1 3 (.int .i64 0) [(0,(kI 0)),(1,(kI 1)),(2,(kI 10))])) (.e 9 (oX 50 (.call 56 [(.t 48),(.t 49)])) (.e 12 (oX 53 (.call 56 [(.t 51),(.t 52)])) (.e 13 (oX 54 (.bs 1 1 (.int .i64 0) [(0,(.t 53))])) (.e 14 (oX 55 (.bld (.cons (.int .i64 0) (.cons (.int .i64 0) (.cons (.int .i64 0) (.cons (.sl true 1 .nil) .nil)))) [(0,(.t 45)),(1,(.t 47)),(2,(.t 50)),(3,(.t 54))])) (.e 15 (oX 56 (.bs 4 1 (.st (.cons (.int .i64 0) (.cons (.int .i64 0) (.cons (.int .i64 0) (.cons (.sl true 1 .nil) .nil))))) [(0,(.t 55))])) (.e 16 (oX 57 (.app 4 48 (.t 42) (.t 56))) (.q 17 (oQ 58 (.fa 1 1 (.t 3))) (.e 18 (oN (.st 1 (.t 58) (.t 57))) .done)))))))))))
 (.e 11 (oX 52 (.bs 1 3 (.int .i64 0) [(0,(kI 0)),(1,(kI 1)),(2,(kI 10))])) (.e 6 (oX 47 (.call 50 [(.t 46),(kI 5)])) (.e 9 (oX 50 (.call 56 [(.t 48),(.t 49)])) (.e 12 (oX 53 (.call 56 [(.t 51),(.t 52)])) (.e 13 (oX 54 (.bs 1 1 (.int .i64 0) [(0,(.t 53))])) (.e 14 (oX 55 (.bld (.cons (.int .i64 0) (.cons (.int .i64 0) (.cons (.int .i64 0) (.cons (.sl true 1 .nil) .nil)))) [(0,(.t 45)),(1,(.t 47)),(2,(.t 50)),(3,(.t 54))])) (.e 15 (oX 56 (.bs 4 1 (.st (.cons (.int .i64 0) (.cons (.int .i64 0) (.cons (.int .i64 0) (.cons (.sl true 1 .nil) .nil))))) [(0,(.t 55))])) (.e 16 (oX 57 (.app 4 48 (.t 42) (.t 56))) (.q 17 (oQ 58 (.fa 1 1 (.t 3))) (.e 18 (oN (.st 1 (.t 58) (.t 57))) .done))))))))))))
 (.e 11 (oX 52 (.bs 1 3 (.int .i64 0) [(0,(kI 0)),(1,(kI 1)),(2,(kI 10))])) (.e 4 (oX 45 (.call 56 [(.t 43),(.t 44)])) (.e 6 (oX 47 (.call 50 [(.t 46),(kI 5)])) (.e 9 (oX 50 (.call 56 [(.t 48),(.t 49)])) (.e 12 (oX 53 (.call 56 [(.t 51),(.t 52)])) (.e 13 (oX 54 (.bs 1 1 (.int .i64 0) [(0,(.t 53))])) (.e 14 (oX 55 (.bld (.cons (.int .i64 0) (.cons (.int .i64 0) (.cons (.int .i64 0) (.cons (.sl true 1 .nil) .nil)))) [(0,(.t 45)),(1,(.t 47)),(2,(.t 50)),(3,(.t 54))])) (.e 15 (oX 56 (.bs 4 1 (.st (.cons (.int .i64 0) (.cons (.int .i64 0) (.cons (.int .i64 0) (.cons (.sl true 1 .nil) .nil))))) [(0,(.t 55))])) (.e 16 (oX 57 (.app 4 48 (.t 42) (.t 56))) (.q 17 (oQ 58 (.fa 1 1 (.t 3))) (.e 18 (oN (.st 1 (.t 58) (.t 57))) .done)))))))))))))
 (.e 11 (oX 52 (.bs 1 3 (.int .i64 0) [(0,(kI 0)),(1,(kI 1)),(2,(kI 10))])) (.br (.e 4 (oX 45 (.call 56 [(.t 43),(.t 44)])) (.br (.e 6 (oX 47 (.call 50 [(.t 46),(kI 5)])) (.e 8 (oX 49 (.bs 1 2 (.int .i64 0) [(0,(kI 0)),(1,(kI 20001))])) (.e 9 (oX 50 (.call 56 [(.t 48),(.t 49)])) (.e 12 (oX 53 (.call 56 [(.t 51),(.t 52)])) (.e 13 (oX 54 (.bs 1 1 (.int .i64 0) [(0,(.t 53))])) (.e 14 (oX 55 (.bld (.cons (.int .i64 0) (.cons (.int .i64 0) (.cons (.int .i64 0) (.cons (.sl true 1 .nil) .nil)))) [(0,(.t 45)),(1,(.t 47)),(2,(.t 50)),(3,(.t 54))])) (.e 15 (oX 56 (.bs 4 1 (.st (.cons (.int .i64 0) (.cons (.int .i64 0) (.cons (.int .i64 0) (.cons (.sl true 1 .nil) .nil))))) [(0,(.t 55))])) (.e 16 (oX 57 (.app 4 48 (.t 42) (.t 56))) (.q 17 (oQ 58 (.fa 1 1 (.t 3))) (.e 18 (oN (.st 1 (.t 58) (.t 57))) .done))))))))))
 (.e 8 (oX 49 (.bs 1 2 (.int .i64 0) [(0,(kI 0)),(1,(kI 20001))])) (.e 6 (oX 47 (.call 50 [(.t 46),(kI 5)])) (.e 9 (oX 50 (.call 56 [(.t 48),(.t 49)])) (.e 12 (oX 53 (.call 56 [(.t 51),(.t 52)])) (.e 13 (oX 54 (.bs 1 1 (.int .i64 0) [(0,(.t 53))])) (.e 14 (oX 55 (.bld (.cons (.int .i64 0) (.cons (.int .i64 0) (.cons (.int .i64 0) (.cons (.sl true 1 .nil) .nil)))) [(0,(.t 45)),(1,(.t 47)),(2,(.t 50)),(3,(.t 54))])) (.e 15 (oX 56 (.bs 4 1 (.st (.cons (.int .i64 0) (.cons (.int .i64 0) (.cons (.int .i64 0) (.cons (.sl true 1 .nil) .nil))))) [(0,(.t 55))])) (.e 16 (oX 57 (.app 4 48 (.t 42) (.t 56))) (.q 17 (oQ 58 (.fa 1 1 (.t 3))) (.e 18 (oN (.st 1 (.t 58) (.t 57))) .done))))))))))))
 (.e 8 (oX 49 (.bs 1 2 (.int .i64 0) [(0,(kI 0)),(1,(kI 20001))])) (.e 4 (oX 45 (.call 56 [(.t 43),(.t 44)])) (.e 6 (oX 47 (.call 50 [(.t 46),(kI 5)])) (.e 9 (oX 50 (.call 56 [(.t 48),(.t 49)])) (.e 12 (oX 53 (.call 56 [(.t 51),(.t 52)])) (.e 13 (oX 54 (.bs 1 1 (.int .i64 0) [(0,(.t 53))])) (.e 14 (oX 55 (.bld (.cons (.int .i64 0) (.cons (.int .i64 0) (.cons (.int .i64 0) (.cons (.sl true 1 .nil) .nil)))) [(0,(.t 45)),(1,(.t 47)),(2,(.t 50)),(3,(.t 54))])) (.e 15 (oX 56 (.bs 4 1 (.st (.cons (.int .i64 0) (.cons (.int .i64 0) (.cons (.int .i64 0) (.cons (.sl true 1 .nil) .nil))))) [(0,(.t 55))])) (.e 16 (oX 57 (.app 4 48 (.t 42) (.t 56))) (.q 17 (oQ 58 (.fa 1 1 (.t 3))) (.e 18 (oN (.st 1 (.t 58) (.t 57))) .done))))))))))))))))
 (.br (.e 8 (oX 49 (.bs 1 2 (.int .i64 0) [(0,(kI 0)),(1,(kI 20001))])) (.br (.e 3 (oX 44 (.bs 1 3 (.int .i64 0) [(0,(kI 0)),(1,(kI 1)),(2,(kI 999))])) (.br (.e 4 (oX 45 (.call 56 [(.t 43),(.t 44)])) (.br (.e 6 (oX 47 (.call 50 [(.t 46),(kI 5)])) (.br (.e 9 (oX 50 (.call 56 [(.t 48),(.t 49)])) (.e 11 (oX 52 (.bs 1 3 (.int .i64 0) [(0,(kI 0)),(1,(kI 1)),(2,(kI 10))])) (.e 12 (oX 53 (.call 56 [(.t 51),(.t 52)])) (.e 13 (oX 54 (.bs 1 1 (.int .i64 0) [(0,(.t 53))])) (.e 14 (oX 55 (.bld (.cons (.int .i64 0) (.cons (.int .i64 0) (.cons (.int .i64 0) (.cons (.sl true 1 .nil) .nil)))) [(0,(.t 45)),(1,(.t 47)),(2,(.t 50)),(3,(.t 54))])) (.e 15 (oX 56 (.bs 4 1 (.st (.cons (.int .i64 0) (.cons (.int .i64 0) (.cons (.int .i64 0) (.cons (.sl true 1 .nil) .nil))))) [(0,(.t 55))])) (.e 16 (oX 57 (.app 4 48 (.t 42) (.t 56))) (.q 17 (oQ 58 (.fa 1 1 (.t 3))) (.e 18 (oN (.st 1 (.t 58) (.t 57))) .done)))))))))
 (.e 11 (oX 52 (.bs 1 3 (.int .i64 0) [(0,(kI 0)),(1,(kI 1)),(2,(kI 10))])) (.e 9 (oX 50 (.call 56 [(.t 48),(.t 49)])) (.e 12 (oX 53 (.call 56 [(.t 51),(.t 52)])) (.e 13 (oX 54 (.bs 1 1 (.int .i64 0) [(0,(.t 53))])) (.e 14 (oX 55 (.bld (.cons (.int .i64 0) (.cons (.int .i64 0) (.cons (.int .i64 0) (.cons (.sl true 1 .nil) .nil)))) [(0,(.t 45)),(1,(.t 47)),(2,(.t 50)),(3,(.t 54))])) (.e 15 (oX 56 (.bs 4 1 (.st (.cons (.int .i64 0) (.cons (.int .i64 0) (.cons (.int .i64 0) (.cons (.sl true 1 .nil) .nil))))) [(0,(.t 55))])) (.e 16 (oX 57 (.app 4 48 (.t 42) (.t 56))) (.q 17 (oQ 58 (.fa 1 1 (.t 3))) (.e 18 (oN (.st 1 (.t 58) (.t 57))) .done)))))))))))
 (.e 11 (oX 52 (.bs 1 3 (.int .i64 0) [(0,(kI 0)),(1,(kI 1)),(2,(kI 10))])) (.e 6 (oX 47 (.call 50 [(.t 46),(kI 5)])) (.e 9 (oX 50 (.call 56 [(.t 48),(.t 49)])) (.e 12 (oX 53 (.call 56 [(.t 51),(.t 52)])) (.e 13 (oX 54 (.bs 1 1 (.int .i64 0) [(0,(.t 53))])) (.e 14 (oX 55 (.bld (.cons (.int .i64 0) (.cons (.int .i64 0) (.cons (.int .i64 0) (.cons (.sl true 1 .nil) .nil)))) [(0,(.t 45)),(1,(.t 47)),(2,(.t 50)),(3,(.t 54))])) (.e 15 (oX 56 (.bs 4 1 (.st (.cons (.int .i64 0) (.cons (.int .i64 0) (.cons (.int .i64 0) (.cons (.sl true 1 .nil) .nil))))) [(0,(.t 55))])) (.e 16 (oX 57 (.app 4 48 (.t 42) (.t 56))) (.q 17 (oQ 58 (.fa 1 1 (.t 3))) (.e 18 (oN (.st 1 (.t 58) (.t 57))) .done))))))))))))
 (.e 11 (oX 52 (.bs 1 3 (.int .i64 0) [(0,(kI 0)),(1,(kI 1)),(2,(kI 10))])) (.e 4 (oX 45 (.call 56 [(.t 43),(.t 44)])) (.e 6 (oX 47 (.call 50 [(.t 46),(kI 5)])) (.e 9 (oX 50 (.call 56 [(.t 48),(.t 49)])) (.e 12 (oX 53 (.call 56 [(.t 51),(.t 52)])) (.e 13 (oX 54 (.bs 1 1 (.int .i64 0) [(0,(.t 53))])) (.e 14 (oX 55 (.bld (.cons (.int .i64 0) (.cons (.int .i64 0) (.cons (.int .i64 0) (.cons (.sl true 1 .nil) .nil)))) [(0,(.t 45)),(1,(.t 47)),(2,(.t 50)),(3,(.t 54))])) (.e 15 (oX 56 (.bs 4 1 (.st (.cons (.int .i64 0) (.cons (.int .i64 0) (.cons (.int .i64 0) (.cons (.sl true 1 .nil) .nil))))) [(0,(.t 55))])) (.e 16 (oX 57 (.app 4 48 (.t 42) (.t 56))) (.q 17 (oQ 58 (.fa 1 1 (.t 3))) (.e 18 (oN (.st 1 (.t 58) (.t 57))) .done)))))))))))))
 (.e 11 (oX 52 (.bs 1 3 (.int .i64 0) [(0,(kI 0)),(1,(kI 1)),(2,(kI 10))])) (.e 3 (oX 44 (.bs 1 3 (.int .i64 0) [(0,(kI 0)),(1,(kI 1)),(2,(kI 999))])) (.e 4 (oX 45 (.call 56 [(.t 43),(.t 44)])) (.e 6 (oX 47 (.call 50 [(.t 46),(kI 5)])) (.e 9 (oX 50 (.call 56 [(.t 48),(.t 49)])) (.e 12 (oX 53 (.call 56 [(.t 51),(.t 52)])) (.e 13 (oX 54 (.bs 1 1 (.int .i64 0) [(0,(.t 53))])) (.e 14 (oX 55 (.bld (.cons (.int .i64 0) (.cons (.int .i64 0) (.cons (.int .i64 0) (.cons (.sl true 1 .nil) .nil)))) [(0,(.t 45)),(1,(.t 47)),(2,(.t 50)),(3,(.t 54))])) (.e 15 (oX 56 (.bs 4 1 (.st (.cons (.int .i64 0) (.cons (.int .i64 0) (.cons (.int .i64 0) (.cons (.sl true 1 .nil) .nil))))) [(0,(.t 55))])) (.e 16 (oX 57 (.app 4 48 (.t 42) (.t 56))) (.q 17 (oQ 58 (.fa 1 1 (.t 3))) (.e 18 (oN (.st 1 (.t 58) (.t 57))) .done))))))))))))))
 (.e 11 (oX 52 (.bs 1 3 (.int .i64 0) [(0,(kI 0)),(1,(kI 1)),(2,(kI 10))])) (.br (.e 3 (oX 44 (.bs 1 3 (.int .i64 0) [(0,(kI 0)),(1,(kI 1)),(2,(kI 999))])) (.br (.e 4 (oX 45 (.call 56 [(.t 43),(.t 44)])) (.br (.e 6 (oX 47 (.call 50 [(.t 46),(kI 5)])) (.e 8 (oX 49 (.bs 1 2 (.int .i64 0) [(0,(kI 0)),(1,(kI 20001))])) (.e 9 (oX 50 (.call 56 [(.t 48),(.t 49)])) (.e 12 (oX 53 (.call 56 [(.t 51),(.t 52)])) (.e 13 (oX 54 (.bs 1 1 (.int .i64 0) [(0,(.t 53))])) (.e 14 (oX 55 (.bld (.cons (.int .i64 0) (.cons (.int .i64 0) (.cons (.int .i64 0) (.cons (.sl true 1 .nil) .nil)))) [(0,(.t 45)),(1,(.t 47)),(2,(.t 50)),(3,(.t 54))])) (.e 15 (oX 56 (.bs 4 1 (.st (.cons (.int .i64 0) (.cons (.int .i64 0) (.cons (.int .i64 0) (.cons (.sl true 1 .nil) .nil))))) [(0,(.t 55))])) (.e 16 (oX 57 (.app 4 48 (.t 42) (.t 56))) (.q 17 (oQ 58 (.fa 1 1 (.t 3))) (.e 18 (oN (.st 1 (.t 58) (.t 57))) .done))))))))))
 (.e 8 (oX 49 (.bs 1 2 (.int .i64 0) [(0,(kI 0)),(1,(kI 20001))])) (.e 6 (oX 47 (.call 50 [(.t 46),(kI 5)])) (.e 9 (oX 50 (.call 56 [(.t 48),(.t 49)])) (.e 12 (oX 53 (.call 56 [(.t 51),(.t 52)])) (.e 13 (oX 54 (.bs 1 1 (.int .i64 0) [(0,(.t 53))])) (.e 14 (oX 55 (.bld (.cons (.int .i64 0) (.cons (.int .i64 0) (.cons (.int .i64 0) (.cons (.sl true 1 .nil) .nil)))) [(0,(.t 45)),(1,(.t 47)),(2,(.t 50)),(3,(.t 54))])) (.e 15 (oX 56 (.bs 4 1 (.st (.cons (.int .i64 0) (.cons (.int .i64 0) (.cons (.int .i64 0) (.cons (.sl true 1 .nil) .nil))))) [(0,(.t 55))])) (.e 16 (oX 57 (.app 4 48 (.t 42) (.t 56))) (.q 17 (oQ 58 (.fa 1 1 (.t 3))) (.e 18 (oN (.st 1 (.t 58) (.t 57))) .done))))))))))))
 (.e 8 (oX 49 (.bs 1 2 (.int .i64 0) [(0,(kI 0)),(1,(kI 20001))])) (.e 4 (oX 45 (.call 56 [(.t 43),(.t 44)])) (.e 6 (oX 47 (.call 50 [(.t 46),(kI 5)])) (.e 9 (oX 50 (.call 56 [(.t 48),(.t 49)])) (.e 12 (oX 53 (.call 56 [(.t 51),(.t 52)])) (.e 13 (oX 54 (.bs 1 1 (.int .i64 0) [(0,(.t 53))])) (.e 14 (oX 55 (.bld (.cons (.int .i64 0) (.cons (.int .i64 0) (.cons (.int .i64 0) (.cons (.sl true 1 .nil) .nil)))) [(0,(.t 45)),(1,(.t 47)),(2,(.t 50)),(3,(.t 54))])) (.e 15 (oX 56 (.bs 4 1 (.st (.cons (.int .i64 0) (.cons (.int .i64 0) (.cons (.int .i64 0) (.cons (.sl true 1 .nil) .nil))))) [(0,(.t 55))])) (.e 16 (oX 57 (.app 4 48 (.t 42) (.t 56))) (.q 17 (oQ 58 (.fa 1 1 (.t 3))) (.e 18 (oN (.st 1 (.t 58) (.t 57))) .done)))))))))))))
 (.e 8 (oX 49 (.bs 1 2 (.int .i64 0) [(0,(kI 0)),(1,(kI 20001))])) (.e 3 (oX 44 (.bs 1 3 (.int .i64 0) [(0,(kI 0)),(1,(kI 1)),(2,(kI 999))])) (.e 4 (oX 45 (.call 56 [(.t 43),(.t 44)])) (.e 6 (oX 47 (.call 50 [(.t 46),(kI 5)])) (.e 9 (oX 50 (.call 56 [(.t 48),(.t 49)])) (.e 12 (oX 53 (.call 56 [(.t 51),(.t 52)])) (.e 13 (oX 54 (.bs 1 1 (.int .i64 0) [(0,(.t 53))])) (.e 14 (oX 55 (.bld (.cons (.int .i64 0) (.cons (.int .i64 0) (.cons (.int .i64 0) (.cons (.sl true 1 .nil) .nil)))) [(0,(.t 45)),(1,(.t 47)),(2,(.t 50)),(3,(.t 54))])) (.e 15 (oX 56 (.bs 4 1 (.st (.cons (.int .i64 0) (.cons (.int .i64 0) (.cons (.int .i64 0) (.cons (.sl true 1 .nil) .nil))))) [(0,(.t 55))])) (.e 16 (oX 57 (.app 4 48 (.t 42) (.t 56))) (.q 17 (oQ 58 (.fa 1 1 (.t 3))) (.e 18 (oN (.st 1 (.t 58) (.t 57))) .done)))))))))))))))))))))))
 (.seq
 (.reg false [0,2,3,32,59] [oQ 60 (.bin .eql (.t 32) (kI 2)),
 oQ 59 (.mov (.t 60))])
 (.cond (.t 59)
 (.block 3
 (.loop
 (.seq
 (.seq
 (.any [] [0,2,3,67] (.q 0 (oQ 61 (.fa 4 4 (.t 3))) (.q 1 (oQ 62 (.ld none (.t 61))) (.q 2 (oQ 63 (.len false (.t 62))) (.q 3 (oQ 64 (.mov (.t 0))) (.e 4 (oX 65 (.call 50 [(.t 64),(kI 2)])) (.q 5 (oQ 66 (.bin .add (kI 8) (.t 65))) (.q 6 (oQ 67 (.bin .lss (.t 63) (.t 66))) .done))))))))
 (.cond (.t 67)
 .skip
 (.exit 3)))
 (.block 4
 (.reg false [0,2,3] [oQ 68 (.fa 4 4 (.t 3)),
 oQ 69 (.ld none (.t 68)),
 oX 70 (.bs 1 1 (.str []) [(0,(.k (.d (.str [114,49,32,100,53]))))]),
 oX 71 (.app 1 16 (.t 69) (.t 70)),
 oQ 72 (.fa 4 4 (.t 3)),
 oN (.st 1 (.t 72) (.t 71))])))))
 (.seq
 (.reg false [0,2,3,73] [oQ 74 (.bin .eql (.t 32) (kI 3)),
 oQ 73 (.mov (.t 74))])
 (.cond (.t 73)
 (.reg false [0,2,3] [oQ 75 (.mov (.t 0)),
 oX 76 (.bs 1 3 (.int .i64 0) [(0,(.k (.d (.int .i64 (-1))))),(1,(kI 999)),(2,(kI 1000))]),
 oX 77 (.call 56 [(.t 75),(.t 76)]),
 oQ 78 (.fa 2 2 (.t 3)),
 oN (.st 1 (.t 78) (.t 77))])
 .skip))))))))))
 (.seq
 (.reg false [0,2] [oQ 79 (.ldv 5 (.t 3)),
 oN (.st 5 (.t 2) (.t 79))])
 .ret)))))
theorem c35:(Go.Proofs.Tryz.f35).body.bind (comp prog.P (1,(Go.Proofs.Tryz.f35).ntmps) aRS)=some m35:=by kernel_rfl
theorem r35:b6 prog.P (Go.Proofs.Tryz.f35).results.toList=true:=by kernel_rfl
def aQj:List (Nat×List Nat):=[(0,[0,3,4]),(1,[0,3,4,5,6]),(2,[0,3,4,5,6,17]),(3,[0,4,6,7]),(4,[0,4,5,6,7]),(5,[0,4,5,6,7,36]),(6,[0,4,5,6]),(7,[0,4,5,6,47]),(8,[0,4]),(9,[0,4,5,6,63]),(10,[0,4,5,6,63,64]),(11,[0,4,5,6,63,64]),(12,[0,4]),(13,[0,4,5,6,63,71]),(14,[0,4,5,6,63,71]),(15,[0,4]),(16,[0,4,5,6,63,84]),(17,[0,4]),(18,[0,4,5,6,63,89]),(19,[0,4]),(20,[0,4,5,93]),(21,[0,4]),(22,[0,4]),(1000003,[1,10,1,0,1,1,1,2,1,3,1,4,1,5,3,2,6,1,7,1,8,2,9,2,10,0,2,9,2,6,1,7,1,8,2,10,0]),(1000006,[0,1,0,1,1,1,2,1,3,1,4,1,5,2,6,1,7,1,8,1,9,0])]
def m36:MC :=
 (.seq
 (.reg false [0,3,4] [oX 3 (.box (.t 1)),
 oX 4 (.alloc (.st (.cons (.int .i64 0) (.cons (.int .i64 0) (.cons (.int .i64 0) (.cons (.int .i64 0) .nil))))))])
 (.seq
 (.reg false [0,3,4,5,6] [oQ 8 (.mov (.t 0)),
 oX 9 (.bs 1 3 (.int .i64 0) [(0,(kI 1)),(1,(kI 12)),(2,(kI 500))]),
 oX 10 (.call 56 [(.t 8),(.t 9)]),
 oQ 11 (.mov (.t 0)),
 oX 12 (.bs 1 4 (.int .i64 0) [(0,(kI 1)),(1,(kI 2)),(2,(kI 2)),(3,(kI 9))]),
 oX 13 (.call 56 [(.t 11),(.t 12)]),
 oQ 5 (.mov (.t 10)),
 oQ 6 (.mov (.t 13))])
 (.seq
 (.seq
 (.reg false [0,3,4,5,6,17] [oQ 14 (.fa 1 1 (.t 3)),
 oQ 15 (.ld none (.t 14)),
 oQ 16 (.len false (.t 15)),
 oQ 17 (.bin .gtr (.t 16) (kI 0))])
 (.cond (.t 17)
 (.seq
 (.any [10] [0,4,6,7] (.q 0 (oQ 18 (.fa 1 1 (.t 3))) (.q 1 (oQ 19 (.ld none (.t 18))) (.q 2 (oQ 20 (.mov (.t 0))) (.q 3 (oQ 21 (.fa 1 1 (.t 3))) (.q 4 (oQ 22 (.ld none (.t 21))) (.q 5 (oQ 23 (.len false (.t 22))) (.br (.e 6 (oX 24 (.call 50 [(.t 20),(.t 23)])) (.q 7 (oQ 25 (.ia 4 (.t 19) (.t 24))) (.q 8 (oQ 26 (.ld (some 4) (.t 25))) (.e 9 (oX 7 (.alloc (.st (.cons (.int .i64 0) (.cons (.int .i64 0) (.cons (.int .i64 0) (.cons (.sl true 1 .nil) .nil))))))) (.e 10 (oN (.st 4 (.t 7) (.t 26))) .done)))))
 (.e 9 (oX 7 (.alloc (.st (.cons (.int .i64 0) (.cons (.int .i64 0) (.cons (.int .i64 0) (.cons (.sl true 1 .nil) .nil))))))) (.e 6 (oX 24 (.call 50 [(.t 20),(.t 23)])) (.q 7 (oQ 25 (.ia 4 (.t 19) (.t 24))) (.q 8 (oQ 26 (.ld (some 4) (.t 25))) (.e 10 (oN (.st 4 (.t 7) (.t 26))) .done)))))))))))))
 (.seq
 (.reg false [0,4,5,6,7] [oQ 27 (.fa 0 0 (.t 7)),
 oQ 28 (.ld none (.t 27)),
 oQ 5 (.mov (.t 28))])
 (.seq
 (.reg false [0,4,5,6,7,36] [oQ 29 (.fa 3 3 (.t 7)),
 oQ 30 (.ld none (.t 29)),
 oQ 31 (.len false (.t 30)),
 oQ 32 (.bin .gtr (.t 31) (kI 0)),
 oQ 33 (.mov (.t 32)),
 oG 34 33 true (.mov (.t 0)),
 oH 35 33 true (.call 51 [(.t 34),(kI 2)]),
 oQ 36 (.pick (.t 33) (.t 35) (kB false))])
 (.cond (.t 36)
 (.any [] [0,4,5,6] (.q 0 (oQ 37 (.fa 3 3 (.t 7))) (.q 1 (oQ 38 (.ld none (.t 37))) (.q 2 (oQ 39 (.mov (.t 0))) (.q 3 (oQ 40 (.fa 3 3 (.t 7))) (.q 4 (oQ 41 (.ld none (.t 40))) (.q 5 (oQ 42 (.len false (.t 41))) (.e 6 (oX 43 (.call 50 [(.t 39),(.t 42)])) (.q 7 (oQ 44 (.ia 1 (.t 38) (.t 43))) (.q 8 (oQ 45 (.ld none (.t 44))) (.q 9 (oQ 6 (.mov (.t 45))) .done)))))))))))
 .skip))))
 .skip))
 (.seq
 (.seq
 (.reg false [0,4,5,6,47] [oQ 46 (.mov (.t 0)),
 oX 47 (.call 51 [(.t 46),(kI 40)])])
 (.cond (.t 47)
 (.seq
 (.reg false [0,4] [oQ 48 (.mov (.t 0)),
 oX 49 (.bs 1 3 (.int .i64 0) [(0,(kI 0)),(1,(kI 7)),(2,(kI 6))]),
 oX 50 (.call 56 [(.t 48),(.t 49)]),
 oQ 51 (.mov (.t 0)),
 oQ 52 (.mov (.t 5)),
 oX 53 (.bs 1 3 (.int .i64 0) [(0,(kI 0)),(1,(.t 52)),(2,(kI 1000))]),
 oX 54 (.call 56 [(.t 51),(.t 53)]),
 oQ 55 (.mov (.t 0)),
 oX 56 (.bs 1 2 (.int .i64 0) [(0,(kI 0)),(1,(kI 1))]),
 oX 57 (.call 56 [(.t 55),(.t 56)]),
 oQ 58 (.mov (.t 0)),
 oX 59 (.bs 1 3 (.int .i64 0) [(0,(kI 0)),(1,(kI 1)),(2,(.k (.d (.int .i64 (-1)))))]),
 oX 60 (.call 56 [(.t 58),(.t 59)]),
 oX 61 (.bld (.cons (.int .i64 0) (.cons (.int .i64 0) (.cons (.int .i64 0) (.cons (.int .i64 0) .nil)))) [(0,(.t 50)),(1,(.t 54)),(2,(.t 57)),(3,(.t 60))]),
 oN (.st 4 (.t 4) (.t 61))])
 .ret)
 .skip))
 (.seq
 (.seq
 (.reg false [0,4,5,6,63] [oQ 62 (.mov (.t 0)),
 oX 63 (.call 50 [(.t 62),(kI 9)])])
 (.block 0
 (.seq
 (.seq
 (.reg false [0,4,5,6,63,64] [oQ 65 (.bin .eql (.t 63) (kI 0)),
 oQ 64 (.mov (.t 65))])
 (.cond (.t 64)
 .skip
 (.reg false [0,4,5,6,63,64] [oQ 66 (.bin .eql (.t 63) (kI 1)),
 oQ 64 (.mov (.t 66))])))
 (.cond (.t 64)
 (.seq
 (.reg false [0,4] [oQ 67 (.mov (.t 0)),
 oX 68 (.bs 1 6 (.int .i64 0) [(0,(kI 1)),(1,(kI 5)),(2,(kI 30)),(3,(kI 100)),(4,(kI 20001)),(5,(kI 0))]),
 oX 69 (.call 56 [(.t 67),(.t 68)]),
 oX 70 (.bld (.cons (.int .i64 0) (.cons (.int .i64 0) (.cons (.int .i64 0) (.cons (.int .i64 0) .nil)))) [(0,(kI 1)),(3,(.t 69))]),
 oN (.st 4 (.t 4) (.t 70))])
 .ret)
 (.seq
 (.seq
 (.reg false [0,4,5,6,63,71] [oQ 72 (.bin .eql (.t 63) (kI 2)),
 oQ 71 (.mov (.t 72))])
 (.cond (.t 71)
 .skip
 (.reg false [0,4,5,6,63,71] [oQ 73 (.bin .eql (.t 63) (kI 3)),
 oQ 71 (.mov (.t 73))])))
 (.cond (.t 71)
 (.seq
 (.reg false [0,4] [oQ 74 (.mov (.t 0)),
 oX 75 (.bs 1 8 (.int .i64 0) [(0,(kI 1)),(1,(kI 12)),(2,(kI 40)),(3,(kI 77)),(4,(kI 500)),(5,(kI 998)),(6,(kI 999)),(7,(kI 1000))]),
 oX 76 (.call 56 [(.t 74),(.t 75)]),
 oQ 77 (.mov (.t 0)),
 oX 78 (.bs 1 6 (.int .i64 0) [(0,(kI 1)),(1,(kI 2)),(2,(kI 3)),(3,(kI 3)),(4,(kI 3)),(5,(kI 4))]),
 oX 79 (.call 56 [(.t 77),(.t 78)]),
 oQ 80 (.mov (.t 0)),
 oX 81 (.bs 1 6 (.int .i64 0) [(0,(kI 0)),(1,(kI 5)),(2,(kI 5)),(3,(kI 30)),(4,(kI 20001)),(5,(.k (.d (.int .i64 (-1)))))]),
 oX 82 (.call 56 [(.t 80),(.t 81)]),
 oX 83 (.bld (.cons (.int .i64 0) (.cons (.int .i64 0) (.cons (.int .i64 0) (.cons (.int .i64 0) .nil)))) [(0,(kI 2)),(1,(.t 76)),(2,(.t 79)),(3,(.t 82))]),
 oN (.st 4 (.t 4) (.t 83))])
 .ret)
 (.seq
 (.reg false [0,4,5,6,63,84] [oQ 85 (.bin .eql (.t 63) (kI 4)),
 oQ 84 (.mov (.t 85))])
 (.cond (.t 84)
 (.seq
 (.reg false [0,4] [oQ 86 (.mov (.t 5)),
 oQ 87 (.mov (.t 6)),
 oX 88 (.bld (.cons (.int .i64 0) (.cons (.int .i64 0) (.cons (.int .i64 0) (.cons (.int .i64 0) .nil)))) [(0,(kI 3)),(1,(.t 86)),(3,(.t 87))]),
 oN (.st 4 (.t 4) (.t 88))])
 .ret)
 (.seq
 (.reg false [0,4,5,6,63,89] [oQ 90 (.bin .eql (.t 63) (kI 5)),
 oQ 89 (.mov (.t 90))])
 (.cond (.t 89)
 (.seq
 (.reg false [0,4] [oQ 91 (.mov (.t 6)),
 oX 92 (.bld (.cons (.int .i64 0) (.cons (.int .i64 0) (.cons (.int .i64 0) (.cons (.int .i64 0) .nil)))) [(0,(kI 4)),(3,(.t 91))]),
 oN (.st 4 (.t 4) (.t 92))])
 .ret)
 (.seq
 (.reg false [0,4,5,93] [oQ 94 (.bin .eql (.t 63) (kI 6)),
 oQ 93 (.mov (.t 94))])
 (.cond (.t 93)
 (.seq
 (.reg false [0,4] [oQ 95 (.mov (.t 5)),
 oQ 96 (.mov (.t 0)),
 oX 97 (.bs 1 4 (.int .i64 0) [(0,(kI 1)),(1,(kI 10)),(2,(kI 20001)),(3,(kI 0))]),
 oX 98 (.call 56 [(.t 96),(.t 97)]),
 oX 99 (.bld (.cons (.int .i64 0) (.cons (.int .i64 0) (.cons (.int .i64 0) (.cons (.int .i64 0) .nil)))) [(0,(kI 5)),(1,(.t 95)),(3,(.t 98))]),
 oN (.st 4 (.t 4) (.t 99))])
 .ret)
 .skip))))))))))))
 (.seq
 (.reg false [0,4] [oQ 100 (.mov (.t 5)),
 oX 101 (.bld (.cons (.int .i64 0) (.cons (.int .i64 0) (.cons (.int .i64 0) (.cons (.int .i64 0) .nil)))) [(0,(kI 6)),(1,(.t 100))]),
 oN (.st 4 (.t 4) (.t 101))])
 .ret))))))
theorem c36:(Go.Proofs.Tryz.f36).body.bind (comp prog.P (2,(Go.Proofs.Tryz.f36).ntmps) aQj)=some m36:=by kernel_rfl
theorem r36:b6 prog.P (Go.Proofs.Tryz.f36).results.toList=true:=by kernel_rfl
def aQ7:List (Nat×List Nat):=[(0,[0,1,2]),(1,[6])]
def m37:MC :=
 (.seq
 (.reg false [0,1,2] [oQ 6 (.mov (kB false))])
 (.seq
 (.reg false [6] [oQ 7 (.mov (.t 1)),
 oQ 8 (.mov (.t 0)),
 oQ 9 (.bin .leq (.t 7) (.t 8)),
 oQ 10 (.mov (.t 9)),
 oG 11 10 true (.mov (.t 0)),
 oG 12 10 true (.mov (.t 2)),
 oG 13 10 true (.bin .leq (.t 11) (.t 12)),
 oQ 14 (.pick (.t 10) (.t 13) (kB false)),
 oQ 6 (.mov (.t 14))])
 .ret))
theorem c37:(Go.Proofs.Tryz.f37).body.bind (comp prog.P (3,(Go.Proofs.Tryz.f37).ntmps) aQ7)=some m37:=by kernel_rfl
theorem r37:b6 prog.P (Go.Proofs.Tryz.f37).results.toList=true:=by kernel_rfl
def aQF:List (Nat×List Nat):=[(0,[1,2]),(1,[1,2]),(2,[1,2,10,11]),(3,[1,2,10,11,12]),(4,[1,2,3,10,11]),(5,[1,2,10,11]),(6,[1,2,10,11]),(7,[1,2]),(8,[2]),(1000005,[1,12,1,0,1,1,1,2,1,3,1,4,1,5,1,6,1,7,1,8,2,9,1,10,1,11,2,12,0])]
def m38:MC :=
 (.seq
 (.reg false [1,2] [oX 1 (.box (.t 0)),
 oX 2 (.alloc (.st (.cons (.int .i64 0) (.cons (.sl true 4 .nil) (.cons (.int .i64 0) (.cons (.int .i64 0) (.cons (.sl true 1 .nil) .nil)))))))])
 (.seq
 (.reg false [1,2] [oQ 4 (.fa 1 1 (.t 1)),
 oQ 5 (.ld none (.t 4)),
 oX 6 (.call 68 [(.t 5)]),
 oQ 7 (.fa 1 1 (.t 1)),
 oN (.st 1 (.t 7) (.t 6))])
 (.seq
 (.seq
 (.reg false [1,2,10,11] [oQ 8 (.fa 1 1 (.t 1)),
 oQ 9 (.ld none (.t 8)),
 oQ 10 (.len false (.t 9)),
 oQ 11 (.mov (kI 0))])
 (.block 0
 (.loop
 (.seq
 (.reg false [1,2,10,11,12] [oQ 12 (.bin .lss (.t 11) (.t 10))])
 (.seq
 (.cond (.t 12)
 .skip
 (.exit 0))
 (.seq
 (.block 1
 (.seq
 (.reg false [1,2,3,10,11] [oQ 13 (.mov (.t 11)),
 oQ 3 (.mov (.t 13))])
 (.any [12] [1,2,10,11] (.q 0 (oQ 14 (.fa 1 1 (.t 1))) (.q 1 (oQ 15 (.ld none (.t 14))) (.q 2 (oQ 16 (.mov (.t 3))) (.q 3 (oQ 17 (.fa 1 1 (.t 1))) (.q 4 (oQ 18 (.ld none (.t 17))) (.q 5 (oQ 19 (.mov (.t 3))) (.q 6 (oQ 20 (.ia 4 (.t 18) (.t 19))) (.q 7 (oQ 21 (.fa 3 3 (.t 20))) (.q 8 (oQ 22 (.ld none (.t 21))) (.e 9 (oX 23 (.call 69 [(.t 22)])) (.q 10 (oQ 24 (.ia 4 (.t 15) (.t 16))) (.q 11 (oQ 25 (.fa 3 3 (.t 24))) (.e 12 (oN (.st 1 (.t 25) (.t 23))) .done))))))))))))))))
 (.reg false [1,2,10,11] [oQ 26 (.bin .add (.t 11) (kI 1)),
 oQ 11 (.mov (.t 26))])))))))
 (.seq
 (.reg false [1,2] [oQ 27 (.fa 4 4 (.t 1)),
 oQ 28 (.ld none (.t 27)),
 oX 29 (.call 70 [(.t 28)]),
 oQ 30 (.fa 4 4 (.t 1)),
 oN (.st 1 (.t 30) (.t 29))])
 (.seq
 (.reg false [2] [oQ 31 (.ldv 5 (.t 1)),
 oN (.st 5 (.t 2) (.t 31))])
 .ret)))))
theorem c38:(Go.Proofs.Tryz.f38).body.bind (comp prog.P (1,(Go.Proofs.Tryz.f38).ntmps) aQF)=some m38:=by kernel_rfl
theorem r38:b6 prog.P (Go.Proofs.Tryz.f38).results.toList=true:=by kernel_rfl
def aRC:List (Nat×List Nat):=[(0,[0,3]),(1,[0,3,5]),(2,[0,3,5,13]),(3,[0,3,18]),(4,[0,4]),(5,[0,3,6]),(6,[0,3,6,38]),(7,[0,3,6]),(8,[0]),(9,[0,4]),(10,[0,3,5,63]),(11,[0,4]),(12,[0,3,5,67]),(13,[0,3]),(14,[0,4]),(15,[0,3,5,88]),(16,[0,4]),(17,[0,4]),(1000008,[1,22,1,0,1,1,1,2,1,3,1,4,1,5,1,6,1,7,1,8,1,9,1,10,1,11,1,12,1,13,1,14,1,15,1,16,2,17,2,18,2,19,1,20,1,21,2,22,0]),(1000013,[1,9,1,0,1,1,1,2,1,3,1,4,1,5,1,6,1,7,1,8,2,9,0])]
def m39:MC :=
 (.seq
 (.reg false [0,3] [oX 3 (.box (.t 1)),
 oQ 4 (.mov (kB false))])
 (.seq
 (.reg true [0,3,5] [oQ 7 (.mov (.t 0)),
 oQ 8 (.nck (.t 7)),
 oQ 9 (.ldv 5 (.t 8)),
 oQ 10 (.fa 1 1 (.t 3)),
 oQ 11 (.ld none (.t 10)),
 oQ 12 (.callP 64 [(.t 9),(.t 11)]),
 oQ 5 (.mov (.t 12))])
 (.seq
 (.block 0
 (.seq
 (.reg false [0,3,5,13] [oQ 14 (.fa 0 0 (.t 3)),
 oQ 15 (.ld none (.t 14)),
 oQ 16 (.bin .eql (.t 15) (kI 2)),
 oQ 13 (.mov (.t 16))])
 (.cond (.t 13)
 (.seq
 (.seq
 (.reg false [0,3,18] [oQ 17 (.mov (.t 5)),
 oQ 18 (.bin .geq (.t 17) (kI 0))])
 (.cond (.t 18)
 (.seq
 (.reg false [0,4] [oQ 4 (.mov (kB false))])
 .ret)
 .skip))
 (.seq
 (.reg false [0,3,6] [oQ 6 (.mov (kI 0))])
 (.seq
 (.block 1
 (.loop
 (.seq
 (.seq
 (.reg true [0,3,6,38] [oQ 19 (.mov (.t 6)),
 oQ 20 (.mov (.t 0)),
 oQ 21 (.nck (.t 20)),
 oQ 22 (.fa 1 1 (.t 21)),
 oQ 23 (.ld none (.t 22)),
 oQ 24 (.len false (.t 23)),
 oQ 25 (.bin .lss (.t 19) (.t 24)),
 oQ 26 (.mov (.t 25)),
 oG 27 26 true (.mov (.t 0)),
 oG 28 26 true (.nck (.t 27)),
 oG 29 26 true (.fa 1 1 (.t 28)),
 oG 30 26 true (.ld none (.t 29)),
 oG 31 26 true (.mov (.t 6)),
 oG 32 26 true (.ia 4 (.t 30) (.t 31)),
 oG 33 26 true (.fa 0 0 (.t 32)),
 oG 34 26 true (.ld none (.t 33)),
 oG 35 26 true (.fa 1 1 (.t 3)),
 oG 36 26 true (.ld none (.t 35)),
 oG 37 26 true (.bin .lss (.t 34) (.t 36)),
 oQ 38 (.pick (.t 26) (.t 37) (kB false))])
 (.cond (.t 38)
 .skip
 (.exit 1)))
 (.block 2
 (.reg false [0,3,6] [oQ 39 (.mov (.t 6)),
 oQ 40 (.bin .add (.t 39) (kI 1)),
 oQ 6 (.mov (.t 40))])))))
 (.seq
 (.any [22] [0] (.q 0 (oQ 41 (.mov (.t 0))) (.q 1 (oQ 42 (.mov (.t 0))) (.q 2 (oQ 43 (.nck (.t 42))) (.q 3 (oQ 44 (.fa 1 1 (.t 43))) (.q 4 (oQ 45 (.ld none (.t 44))) (.q 5 (oQ 46 (.mov (.t 6))) (.q 6 (oQ 47 (.fa 1 1 (.t 3))) (.q 7 (oQ 48 (.ld none (.t 47))) (.q 8 (oQ 49 (.fa 2 2 (.t 3))) (.q 9 (oQ 50 (.ld none (.t 49))) (.q 10 (oQ 51 (.mov (.t 0))) (.q 11 (oQ 52 (.nck (.t 51))) (.q 12 (oQ 53 (.fa 0 0 (.t 52))) (.q 13 (oQ 54 (.ld none (.t 53))) (.q 14 (oQ 55 (.fa 3 3 (.t 3))) (.q 15 (oQ 56 (.ld none (.t 55))) (.q 16 (oQ 57 (.bin .add (.t 54) (.t 56))) (.e 17 (oX 58 (.bld (.cons (.int .i64 0) (.cons (.int .i64 0) (.cons (.int .i64 0) (.cons (.sl true 1 .nil) .nil)))) [(0,(.t 48)),(1,(.t 50)),(2,(.t 57))])) (.e 18 (oX 59 (.bs 4 1 (.st (.cons (.int .i64 0) (.cons (.int .i64 0) (.cons (.int .i64 0) (.cons (.sl true 1 .nil) .nil))))) [(0,(.t 58))])) (.e 19 (oX 60 (.call 71 [(.t 45),(.t 46),(.t 59)])) (.q 20 (oQ 61 (.nck (.t 41))) (.q 21 (oQ 62 (.fa 1 1 (.t 61))) (.e 22 (oN (.st 1 (.t 62) (.t 60))) .done))))))))))))))))))))))))
 (.seq
 (.reg false [0,4] [oQ 4 (.mov (kB true))])
 .ret)))))
 (.seq
 (.reg false [0,3,5,63] [oQ 64 (.fa 2 2 (.t 3)),
 oQ 65 (.ld none (.t 64)),
 oQ 66 (.bin .neq (.t 65) (kI 0)),
 oQ 63 (.mov (.t 66))])
 (.cond (.t 63)
 (.seq
 (.reg false [0,4] [oQ 4 (.mov (kB false))])
 .ret)
 (.seq
 (.reg false [0,3,5,67] [oQ 68 (.fa 0 0 (.t 3)),
 oQ 69 (.ld none (.t 68)),
 oQ 70 (.bin .eql (.t 69) (kI 1)),
 oQ 67 (.mov (.t 70))])
 (.cond (.t 67)
 (.seq
 (.any [9] [0,3] (.q 0 (oQ 71 (.mov (.t 0))) (.q 1 (oQ 72 (.nck (.t 71))) (.q 2 (oQ 73 (.fa 0 0 (.t 72))) (.q 3 (oQ 74 (.ld none (.t 73))) (.q 4 (oQ 75 (.fa 3 3 (.t 3))) (.q 5 (oQ 76 (.ld none (.t 75))) (.q 6 (oQ 77 (.bin .add (.t 74) (.t 76))) (.q 7 (oQ 78 (.nck (.t 71))) (.q 8 (oQ 79 (.fa 0 0 (.t 78))) (.e 9 (oN (.st 1 (.t 79) (.t 77))) .done)))))))))))
 (.seq
 (.reg false [0,4] [oQ 80 (.fa 1 1 (.t 3)),
 oQ 81 (.ld none (.t 80)),
 oQ 82 (.bin .eql (.t 81) (kI 0)),
 oQ 83 (.mov (.t 82)),
 oG 84 83 true (.fa 3 3 (.t 3)),
 oG 85 83 true (.ld none (.t 84)),
 oG 86 83 true (.bin .geq (.t 85) (kI 1)),
 oQ 87 (.pick (.t 83) (.t 86) (kB false)),
 oQ 4 (.mov (.t 87))])
 .ret))
 (.seq
 (.reg false [0,3,5,88] [oQ 89 (.fa 0 0 (.t 3)),
 oQ 90 (.ld none (.t 89)),
 oQ 91 (.bin .eql (.t 90) (kI 4)),
 oQ 88 (.mov (.t 91))])
 (.cond (.t 88)
 (.seq
 (.reg false [0,4] [oQ 92 (.fa 1 1 (.t 3)),
 oQ 93 (.ld none (.t 92)),
 oQ 94 (.bin .eql (.t 93) (kI 0)),
 oQ 95 (.mov (.t 94)),
 oG 96 95 true (.mov (.t 0)),
 oG 97 95 true (.fa 3 3 (.t 3)),
 oG 98 95 true (.ld none (.t 97)),
 oH 99 95 true (.call 72 [(.t 96),(.t 98)]),
 oQ 100 (.pick (.t 95) (.t 99) (kB false)),
 oQ 4 (.mov (.t 100))])
 .ret)
 .skip)))))))))
 (.seq
 (.reg false [0,4] [oQ 101 (.mov (.t 5)),
 oQ 102 (.bin .geq (.t 101) (kI 0)),
 oQ 103 (.mov (.t 102)),
 oG 104 103 true (.mov (.t 0)),
 oG 105 103 true (.mov (.t 5)),
 oG 106 103 true (.ld (some 4) (.t 3)),
 oH 107 103 true (.call 73 [(.t 104),(.t 105),(.t 106)]),
 oQ 108 (.pick (.t 103) (.t 107) (kB false)),
 oQ 4 (.mov (.t 108))])
 .ret))))
theorem c39:(Go.Proofs.Tryz.f39).body.bind (comp prog.P (2,(Go.Proofs.Tryz.f39).ntmps) aRC)=some m39:=by kernel_rfl
theorem r39:b6 prog.P (Go.Proofs.Tryz.f39).results.toList=true:=by kernel_rfl
def aR8:List (Nat×List Nat):=[(0,[1]),(1,[1,37]),(2,[2]),(3,[1,3]),(4,[1,3,42]),(5,[1,3]),(6,[1,3,71]),(7,[2]),(8,[2])]
def m40:MC :=
 (.seq
 (.reg false [1] [oX 1 (.box (.t 0)),
 oQ 2 (.mov (kB false))])
 (.seq
 (.seq
 (.reg false [1,37] [oQ 4 (.fa 0 0 (.t 1)),
 oQ 5 (.ld none (.t 4)),
 oX 6 (.call 54 [(.t 5)]),
 oQ 7 (.un .not (.t 6)),
 oQ 8 (.mov (.t 7)),
 oG 9 8 false (.fa 1 1 (.t 1)),
 oG 10 8 false (.ld none (.t 9)),
 oG 11 8 false (.len false (.t 10)),
 oG 12 8 false (.bin .gtr (.t 11) (kI 6)),
 oQ 13 (.pick (.t 8) (kB true) (.t 12)),
 oQ 14 (.mov (.t 13)),
 oG 15 14 false (.fa 2 2 (.t 1)),
 oG 16 14 false (.ld none (.t 15)),
 oH 17 14 false (.call 60 [(.t 16),(kI 0),(kI 999)]),
 oG 18 14 false (.un .not (.t 17)),
 oQ 19 (.pick (.t 14) (kB true) (.t 18)),
 oQ 20 (.mov (.t 19)),
 oG 21 20 false (.fa 3 3 (.t 1)),
 oG 22 20 false (.ld none (.t 21)),
 oH 23 20 false (.call 60 [(.t 22),(kI 0),(kI 999)]),
 oG 24 20 false (.un .not (.t 23)),
 oQ 25 (.pick (.t 20) (kB true) (.t 24)),
 oQ 26 (.mov (.t 25)),
 oG 27 26 false (.fa 4 4 (.t 1)),
 oG 28 26 false (.ld none (.t 27)),
 oG 29 26 false (.len false (.t 28)),
 oG 30 26 false (.bin .gtr (.t 29) (kI 0)),
 oG 31 26 false (.mov (.t 30)),
 oG 32 31 true (.fa 4 4 (.t 1)),
 oG 33 31 true (.ld none (.t 32)),
 oH 34 31 true (.call 74 [(.t 33)]),
 oG 35 31 true (.un .not (.t 34)),
 oG 36 26 false (.pick (.t 31) (.t 35) (kB false)),
 oQ 37 (.pick (.t 26) (kB true) (.t 36))])
 (.cond (.t 37)
 (.seq
 (.reg false [2] [oQ 2 (.mov (kB false))])
 .ret)
 .skip))
 (.seq
 (.seq
 (.reg false [1,3] [oQ 3 (.mov (kI 0))])
 (.block 0
 (.loop
 (.seq
 (.seq
 (.reg false [1,3,42] [oQ 38 (.mov (.t 3)),
 oQ 39 (.fa 1 1 (.t 1)),
 oQ 40 (.ld none (.t 39)),
 oQ 41 (.len false (.t 40)),
 oQ 42 (.bin .lss (.t 38) (.t 41))])
 (.cond (.t 42)
 .skip
 (.exit 0)))
 (.seq
 (.block 1
 (.seq
 (.reg true [1,3,71] [oQ 45 (.fa 1 1 (.t 1)),
 oQ 46 (.ld none (.t 45)),
 oQ 47 (.mov (.t 3)),
 oQ 48 (.ia 4 (.t 46) (.t 47)),
 oQ 49 (.ld (some 4) (.t 48)),
 oQ 50 (.callP 75 [(.t 49)]),
 oQ 51 (.un .not (.t 50)),
 oQ 52 (.mov (.t 51)),
 oG 53 52 false (.mov (.t 3)),
 oG 54 52 false (.bin .gtr (.t 53) (kI 0)),
 oG 55 52 false (.mov (.t 54)),
 oG 56 55 true (.fa 1 1 (.t 1)),
 oG 57 55 true (.ld none (.t 56)),
 oG 58 55 true (.mov (.t 3)),
 oG 59 55 true (.bin .sub (.t 58) (kI 1)),
 oG 60 55 true (.ia 4 (.t 57) (.t 59)),
 oG 61 55 true (.fa 0 0 (.t 60)),
 oG 62 55 true (.ld none (.t 61)),
 oG 63 55 true (.fa 1 1 (.t 1)),
 oG 64 55 true (.ld none (.t 63)),
 oG 65 55 true (.mov (.t 3)),
 oG 66 55 true (.ia 4 (.t 64) (.t 65)),
 oG 67 55 true (.fa 0 0 (.t 66)),
 oG 68 55 true (.ld none (.t 67)),
 oG 69 55 true (.bin .geq (.t 62) (.t 68)),
 oG 70 52 false (.pick (.t 55) (.t 69) (kB false)),
 oQ 71 (.pick (.t 52) (kB true) (.t 70))])
 (.cond (.t 71)
 (.seq
 (.reg false [2] [oQ 2 (.mov (kB false))])
 .ret)
 .skip)))
 (.reg false [1,3] [oQ 43 (.mov (.t 3)),
 oQ 44 (.bin .add (.t 43) (kI 1)),
 oQ 3 (.mov (.t 44))]))))))
 (.seq
 (.reg false [2] [oQ 2 (.mov (kB true))])
 .ret))))
theorem c40:(Go.Proofs.Tryz.f40).body.bind (comp prog.P (1,(Go.Proofs.Tryz.f40).ntmps) aR8)=some m40:=by kernel_rfl
theorem r40:b6 prog.P (Go.Proofs.Tryz.f40).results.toList=true:=by kernel_rfl
def aRB:List (Nat×List Nat):=[(0,[2,3]),(1,[3,5]),(2,[3,5,11]),(3,[3,5,11,12]),(4,[4]),(5,[3,5,11,27]),(6,[4]),(7,[3,5,11,46]),(8,[4]),(9,[3,5,11,60]),(10,[4]),(11,[3,5,75]),(12,[4]),(13,[4])]
def m41:MC :=
 (.seq
 (.reg false [2,3] [oX 2 (.box (.t 0)),
 oX 3 (.box (.t 1)),
 oQ 4 (.mov (kB false))])
 (.seq
 (.reg false [3,5] [oQ 6 (.ldv 5 (.t 2)),
 oQ 7 (.fa 1 1 (.t 3)),
 oQ 8 (.ld none (.t 7)),
 oX 9 (.call 66 [(.t 6),(.t 8)]),
 oQ 5 (.mov (.t 9))])
 (.seq
 (.seq
 (.reg false [3,5,11] [oQ 10 (.fa 0 0 (.t 3)),
 oQ 11 (.ld none (.t 10))])
 (.block 0
 (.seq
 (.reg false [3,5,11,12] [oQ 13 (.bin .eql (.t 11) (kI 1)),
 oQ 12 (.mov (.t 13))])
 (.cond (.t 12)
 (.seq
 (.reg false [4] [oQ 14 (.fa 1 1 (.t 3)),
 oQ 15 (.ld none (.t 14)),
 oQ 16 (.bin .eql (.t 15) (kI 0)),
 oQ 17 (.mov (.t 16)),
 oG 18 17 true (.fa 2 2 (.t 3)),
 oG 19 17 true (.ld none (.t 18)),
 oG 20 17 true (.bin .eql (.t 19) (kI 0)),
 oQ 21 (.pick (.t 17) (.t 20) (kB false)),
 oQ 22 (.mov (.t 21)),
 oG 23 22 true (.fa 3 3 (.t 3)),
 oG 24 22 true (.ld none (.t 23)),
 oG 25 22 true (.bin .geq (.t 24) (kI 1)),
 oQ 26 (.pick (.t 22) (.t 25) (kB false)),
 oQ 4 (.mov (.t 26))])
 .ret)
 (.seq
 (.reg false [3,5,11,27] [oQ 28 (.bin .eql (.t 11) (kI 2)),
 oQ 27 (.mov (.t 28))])
 (.cond (.t 27)
 (.seq
 (.reg false [4] [oQ 29 (.fa 1 1 (.t 3)),
 oQ 30 (.ld none (.t 29)),
 oX 31 (.call 60 [(.t 30),(kI 1),(kI 999)]),
 oQ 32 (.mov (.t 31)),
 oG 33 32 true (.mov (.t 5)),
 oG 34 32 true (.bin .lss (.t 33) (kI 0)),
 oQ 35 (.pick (.t 32) (.t 34) (kB false)),
 oQ 36 (.mov (.t 35)),
 oG 37 36 true (.fa 2 2 (.t 3)),
 oG 38 36 true (.ld none (.t 37)),
 oH 39 36 true (.call 60 [(.t 38),(kI 1),(kI 3)]),
 oQ 40 (.pick (.t 36) (.t 39) (kB false)),
 oQ 41 (.mov (.t 40)),
 oG 42 41 true (.fa 3 3 (.t 3)),
 oG 43 41 true (.ld none (.t 42)),
 oG 44 41 true (.bin .geq (.t 43) (kI 0)),
 oQ 45 (.pick (.t 41) (.t 44) (kB false)),
 oQ 4 (.mov (.t 45))])
 .ret)
 (.seq
 (.reg false [3,5,11,46] [oQ 47 (.bin .eql (.t 11) (kI 3)),
 oQ 46 (.mov (.t 47))])
 (.cond (.t 46)
 (.seq
 (.reg false [4] [oQ 48 (.mov (.t 5)),
 oQ 49 (.bin .geq (.t 48) (kI 0)),
 oQ 50 (.mov (.t 49)),
 oG 51 50 true (.fa 2 2 (.t 3)),
 oG 52 50 true (.ld none (.t 51)),
 oG 53 50 true (.bin .eql (.t 52) (kI 0)),
 oQ 54 (.pick (.t 50) (.t 53) (kB false)),
 oQ 55 (.mov (.t 54)),
 oG 56 55 true (.fa 3 3 (.t 3)),
 oG 57 55 true (.ld none (.t 56)),
 oH 58 55 true (.call 60 [(.t 57),(kI 1),(kI 9)]),
 oQ 59 (.pick (.t 55) (.t 58) (kB false)),
 oQ 4 (.mov (.t 59))])
 .ret)
 (.seq
 (.reg false [3,5,11,60] [oQ 61 (.bin .eql (.t 11) (kI 4)),
 oQ 60 (.mov (.t 61))])
 (.cond (.t 60)
 (.seq
 (.reg false [4] [oQ 62 (.fa 1 1 (.t 3)),
 oQ 63 (.ld none (.t 62)),
 oQ 64 (.bin .eql (.t 63) (kI 0)),
 oQ 65 (.mov (.t 64)),
 oG 66 65 true (.fa 2 2 (.t 3)),
 oG 67 65 true (.ld none (.t 66)),
 oG 68 65 true (.bin .eql (.t 67) (kI 0)),
 oQ 69 (.pick (.t 65) (.t 68) (kB false)),
 oQ 70 (.mov (.t 69)),
 oG 71 70 true (.fa 3 3 (.t 3)),
 oG 72 70 true (.ld none (.t 71)),
 oH 73 70 true (.call 60 [(.t 72),(kI 1),(kI 9)]),
 oQ 74 (.pick (.t 70) (.t 73) (kB false)),
 oQ 4 (.mov (.t 74))])
 .ret)
 (.seq
 (.reg false [3,5,75] [oQ 76 (.bin .eql (.t 11) (kI 5)),
 oQ 75 (.mov (.t 76))])
 (.cond (.t 75)
 (.seq
 (.reg false [4] [oQ 77 (.mov (.t 5)),
 oQ 78 (.bin .geq (.t 77) (kI 0)),
 oQ 79 (.mov (.t 78)),
 oG 80 79 true (.fa 2 2 (.t 3)),
 oG 81 79 true (.ld none (.t 80)),
 oG 82 79 true (.bin .eql (.t 81) (kI 0)),
 oQ 83 (.pick (.t 79) (.t 82) (kB false)),
 oQ 84 (.mov (.t 83)),
 oG 85 84 true (.fa 3 3 (.t 3)),
 oG 86 84 true (.ld none (.t 85)),
 oG 87 84 true (.bin .geq (.t 86) (kI 1)),
 oQ 88 (.pick (.t 84) (.t 87) (kB false)),
 oQ 4 (.mov (.t 88))])
 .ret)
 .skip))))))))))))
 (.seq
 (.reg false [4] [oQ 89 (.fa 0 0 (.t 3)),
 oQ 90 (.ld none (.t 89)),
 oQ 91 (.bin .eql (.t 90) (kI 6)),
 oQ 92 (.mov (.t 91)),
 oG 93 92 true (.mov (.t 5)),
 oG 94 92 true (.bin .geq (.t 93) (kI 0)),
 oQ 95 (.pick (.t 92) (.t 94) (kB false)),
 oQ 96 (.mov (.t 95)),
 oG 97 96 true (.fa 2 2 (.t 3)),
 oG 98 96 true (.ld none (.t 97)),
 oG 99 96 true (.bin .eql (.t 98) (kI 0)),
 oQ 100 (.pick (.t 96) (.t 99) (kB false)),
 oQ 101 (.mov (.t 100)),
 oG 102 101 true (.fa 3 3 (.t 3)),
 oG 103 101 true (.ld none (.t 102)),
 oG 104 101 true (.bin .eql (.t 103) (kI 0)),
 oQ 105 (.pick (.t 101) (.t 104) (kB false)),
 oQ 4 (.mov (.t 105))])
 .ret))))
theorem c41:(Go.Proofs.Tryz.f41).body.bind (comp prog.P (2,(Go.Proofs.Tryz.f41).ntmps) aRB)=some m41:=by kernel_rfl
theorem r41:b6 prog.P (Go.Proofs.Tryz.f41).results.toList=true:=by kernel_rfl
end Go.Pe.Tryz
