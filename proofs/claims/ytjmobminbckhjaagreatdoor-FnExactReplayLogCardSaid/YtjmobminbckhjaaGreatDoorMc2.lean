/-
The compact code of the functions that the law reaches,printed by gen.py,each with the proof that the machine's code is compiled to it.
-/
import Derived.Test.YtjmobminbckhjaaGreatDoorMc1
import Derived.Test.YtjmobminbckhjaaGreatDoorProg
import Derived.KernelRfl
set_option maxRecDepth 100000
namespace Go.Pe.Tryz
open Go.Pe
def m31:MC :=
 (.seq
 (rF [1,2,4] [oX 2 (.box (.t 0)),
 oX 4 (.alloc (.st (.cons (.st (.cons (.int .i64 0) (.cons (.sl true 4 .nil) (.cons (.int .i64 0) (.cons (.int .i64 0) (.cons (.sl true 1 .nil) .nil)))))) (.cons (.st (.cons (.str []) (.cons (.str []) (.cons (.int .i64 0) .nil)))) .nil)))),
 oQ 5 (.mov (.k (.d (.str []))))])
 (.seq
 (rF [1,2,4,6] [qM 11 1,
 oX 12 (.call 44 [(.t 11),(.k (.d (.int .u8 32)))]),
 qM 6 12])
 (.seq
 (rF [1,2,4,6,7] [oX 13 (.bs 1 0 (.int .i64 0) []),
 qM 7 13])
 (.seq
 (.seq
 (rF [1,2,4,6,7,8] [qI 8 1])
 (.block 0
 (.loop
 (.seq
 (.seq
 (rF [1,2,4,6,7,8,17] [qM 14 8,
 qM 15 6,
 qN 16 false 15,
 qT 17 .lss 14 16])
 (cE 17 0))
 (.seq
 (.block 1
 (.seq
 (rF [1,2,4,6,7,8,9,10] [qM 21 6,
 qM 22 8,
 qX 23 1 21 22,
 qL 24 23,
 qC 25 56 [24],
 qM 20 25,
 qE 26 20 0,
 qE 27 20 1,
 qM 9 26,
 qM 10 27])
 (.seq
 (.seq
 (rF [1,2,4,6,7,8,9,29] [qM 28 10,
 qU 29 28])
 (cS 29
 (.seq
 (rF [4,5] [qV 30 8 2,
 qS 8 4 30,
 oQ 5 (.mov (.k (.d (.str [63]))))])
 .ret)))
 (rF [1,2,4,6,7,8] [qM 31 7,
 qM 32 9,
 oX 33 (.bs 1 1 (.int .i64 0) [(0,(.t 32))]),
 oX 34 (.app 1 8 (.t 31) (.t 33)),
 qM 7 34]))))
 (rF [1,2,4,6,7,8] [qM 18 8,
 qJ 19 .add 18 1,
 qM 8 19]))))))
 (.seq
 (.seq
 (rF [1,2,4,6,7,36] [qM 35 7,
 qN 36 false 35])
 (.block 2
 (.seq
 (rF [1,2,4,6,7,36,37] [qJ 38 .eql 36 0,
 qM 37 38])
 (.cond (.t 37)
 (.seq
 (.any [5,6] [4,5] (.q 1 (qF 40 0 0 2) (.q 3 (qM 42 1) (.br (.e 0 (qV 39 8 2) (.e 2 (qV 41 5 40) (.e 4 (qC 43 57 [41,42]) (.e 5 (qS 8 4 39) (.e 6 (qM 5 43) .done)))))
 (.e 2 (qV 41 5 40) (.br (.e 0 (qV 39 8 2) (.e 4 (qC 43 57 [41,42]) (.e 5 (qS 8 4 39) (.e 6 (qM 5 43) .done))))
 (.e 4 (qC 43 57 [41,42]) (.e 0 (qV 39 8 2) (.e 5 (qS 8 4 39) (.e 6 (qM 5 43) .done))))))))))
 .ret)
 (.seq
 (rF [2,4,6,7,36,44] [qJ 45 .eql 36 1,
 qM 44 45])
 (.cond (.t 44)
 (.seq
 (.any [10,11] [4,5] (.q 1 (qM 47 6) (.q 2 (oQ 48 (.ia 1 (.t 47) (kI 0))) (.q 3 (qL 49 48) (.q 4 (qM 50 7) (.q 5 (oQ 51 (.ia 1 (.t 50) (kI 0))) (.q 6 (qL 52 51) (.e 0 (qV 46 8 2) (.e 7 (qC 53 58 [46,49,52]) (.q 8 (qE 54 53 0) (.q 9 (qE 55 53 1) (.e 10 (qS 8 4 54) (.e 11 (qM 5 55) .done)))))))))))))
 .ret)
 (.seq
 (rF [2,4,6,7,36,56] [qJ 57 .eql 36 2,
 qM 56 57])
 (.cond (.t 56)
 (.seq
 (.any [13,14] [4,5] (.q 1 (qM 59 6) (.q 2 (oQ 60 (.ia 1 (.t 59) (kI 0))) (.q 3 (qL 61 60) (.q 4 (qM 62 7) (.q 5 (oQ 63 (.ia 1 (.t 62) (kI 0))) (.q 6 (qL 64 63) (.q 7 (qM 65 7) (.q 8 (oQ 66 (.ia 1 (.t 65) (kI 1))) (.q 9 (qL 67 66) (.e 0 (qV 58 8 2) (.e 10 (qC 68 59 [58,61,64,67]) (.q 11 (qE 69 68 0) (.q 12 (qE 70 68 1) (.e 13 (qS 8 4 69) (.e 14 (qM 5 70) .done))))))))))))))))
 .ret)
 (.seq
 (rF [2,4,6,7,71] [qJ 72 .eql 36 3,
 qM 71 72])
 (cS 71
 (.seq
 (rF [2,4,7,76] [qM 73 6,
 oQ 74 (.ia 1 (.t 73) (kI 0)),
 qL 75 74,
 oQ 76 (.bin .eql (.t 75) (.k (.d (.str [101,110,116,101,114]))))])
 (cS 76
 (.seq
 (.any [14,15] [4,5] (.q 1 (qM 78 7) (.q 2 (oQ 79 (.ia 1 (.t 78) (kI 0))) (.q 3 (qL 80 79) (.q 4 (qM 81 7) (.q 5 (oQ 82 (.ia 1 (.t 81) (kI 1))) (.q 6 (qL 83 82) (.q 7 (qM 84 7) (.q 8 (oQ 85 (.ia 1 (.t 84) (kI 2))) (.q 9 (qL 86 85) (.br (.e 0 (qV 77 8 2) (.e 10 (oX 87 (.bld (.cons (.int .i64 0) (.cons (.int .i64 0) (.cons (.int .i64 0) (.cons (.int .i64 0) .nil)))) [(0,(kI 2)),(1,(.t 80)),(2,(.t 83)),(3,(.t 86))])) (.e 11 (qC 88 60 [77,87]) (.q 12 (qE 89 88 0) (.q 13 (qE 90 88 1) (.e 14 (qS 8 4 89) (.e 15 (qM 5 90) .done)))))))
 (.e 10 (oX 87 (.bld (.cons (.int .i64 0) (.cons (.int .i64 0) (.cons (.int .i64 0) (.cons (.int .i64 0) .nil)))) [(0,(kI 2)),(1,(.t 80)),(2,(.t 83)),(3,(.t 86))])) (.e 0 (qV 77 8 2) (.e 11 (qC 88 60 [77,87]) (.q 12 (qE 89 88 0) (.q 13 (qE 90 88 1) (.e 14 (qS 8 4 89) (.e 15 (qM 5 90) .done))))))))))))))))))
 .ret)))))))))))))
 (.seq
 (rF [4,5] [qV 91 8 2,
 qS 8 4 91,
 oQ 5 (.mov (.k (.d (.str [63]))))])
 .ret))))))
noncomputable def aTU:CM prog 31 2 [(0,[1,2,4]),(1,[1,2,4,6]),(2,[1,2,4,6,7]),(3,[1,2,4,6,7,8]),(4,[1,2,4,6,7,8,17]),(5,[1,2,4,6,7,8]),(6,[1,2,4,6,7,8,9,10]),(7,[1,2,4,6,7,8,9,29]),(8,[4,5]),(9,[1,2,4,6,7,8]),(10,[1,2,4,6,7,36]),(11,[1,2,4,6,7,36,37]),(12,[4,5]),(13,[2,4,6,7,36,44]),(14,[4,5]),(15,[2,4,6,7,36,56]),(16,[4,5]),(17,[2,4,6,7,71]),(18,[2,4,7,76]),(19,[4,5]),(20,[4,5]),(1000012,[2,5,6,1,1,1,3,3,2,0,2,2,2,4,2,5,2,6,0,2,2,3,2,0,2,4,2,5,2,6,0,2,4,2,0,2,5,2,6,0]),(1000014,[2,10,11,1,1,1,2,1,3,1,4,1,5,1,6,2,0,2,7,1,8,1,9,2,10,2,11,0]),(1000016,[2,13,14,1,1,1,2,1,3,1,4,1,5,1,6,1,7,1,8,1,9,2,0,2,10,1,11,1,12,2,13,2,14,0]),(1000019,[2,14,15,1,1,1,2,1,3,1,4,1,5,1,6,1,7,1,8,1,9,3,2,0,2,10,2,11,1,12,1,13,2,14,2,15,0,2,10,2,0,2,11,1,12,1,13,2,14,2,15,0])]:=.mk (m:=m31) Go.Proofs.Tryz.func31 (by kernel_rfl)
def m32:MC :=
 (.seq
 (rF [2,3,4] [oX 2 (.box (.t 0)),
 oX 3 (.box (.t 1)),
 oX 4 (.alloc (.st (.cons (.str []) (.cons (.str []) (.cons (.int .i64 0) .nil))))),
 qI 5 0])
 (.seq
 (.seq
 (rF [2,3,4,13] [oQ 6 (.ld (some 3) (.t 2)),
 qC 7 23 [6],
 qU 8 7,
 qM 9 8,
 oG 10 9 false (.ld (some 2) (.t 3)),
 oH 11 9 false (.call 30 [(.t 10)]),
 oG 12 9 false (.un .not (.t 11)),
 qO 13 9 12])
 (cS 13
 (.seq
 (rF [4,5] [oQ 14 (.ld (some 3) (.t 2)),
 qS 3 4 14,
 qI 5 1])
 .ret)))
 (.seq
 (.seq
 (rF [2,3,4,17] [qF 15 2 2 2,
 qL 16 15,
 qJ 17 .eql 16 60])
 (cS 17
 (.seq
 (rF [4,5] [oQ 18 (.ld (some 3) (.t 2)),
 qS 3 4 18,
 qI 5 2])
 .ret)))
 (.seq
 (.any [8] [2,4] (.q 0 (qF 19 1 1 2) (.q 1 (qL 20 19) (.q 2 (qF 21 2 2 2) (.q 3 (qL 22 21) (.q 4 (oQ 23 (.ld (some 2) (.t 3))) (.e 5 (qC 24 61 [22,23]) (.q 6 (qT 25 .add 20 24) (.q 7 (qF 26 1 1 2) (.e 8 (qS 1 26 25) .done))))))))))
 (.seq
 (rF [2,4] [qF 27 2 2 2,
 qL 28 27,
 qJ 29 .add 28 1,
 qF 30 2 2 2,
 qS 1 30 29])
 (.seq
 (rF [4,5] [oQ 31 (.ld (some 3) (.t 2)),
 qS 3 4 31,
 qI 5 0])
 .ret))))))
noncomputable def aGu:CM prog 32 2 [(0,[2,3,4]),(1,[2,3,4,13]),(2,[4,5]),(3,[2,3,4,17]),(4,[4,5]),(5,[2,4]),(6,[2,4]),(7,[4,5]),(1000005,[1,8,1,0,1,1,1,2,1,3,1,4,2,5,1,6,1,7,2,8,0])]:=.mk (m:=m32) Go.Proofs.Tryz.func32 (by kernel_rfl)
def m34:MC :=
 (.seq
 (rF [1] [oX 1 (.box (.t 0)),
 qB 2 false])
 (.seq
 (rF [2] [qF 3 0 0 1,
 qV 4 5 3,
 qC 5 64 [4],
 qM 6 5,
 gF 7 6 true 1 5 1,
 oG 8 6 true (.ld (some 3) (.t 7)),
 oH 9 6 true (.call 65 [(.t 8)]),
 qA 10 6 9,
 qM 2 10])
 .ret))
noncomputable def aV0:CM prog 34 1 [(0,[1]),(1,[2])]:=.mk (m:=m34) Go.Proofs.Tryz.func34 (by kernel_rfl)
def m35:MC :=
 (.seq
 (rF [1,2] [oX 1 (.box (.t 0)),
 oX 2 (.alloc (.st (.cons (.st (.cons (.int .i64 0) (.cons (.sl true 4 .nil) (.cons (.int .i64 0) (.cons (.int .i64 0) (.cons (.sl true 1 .nil) .nil)))))) (.cons (.st (.cons (.str []) (.cons (.str []) (.cons (.int .i64 0) .nil)))) .nil))))])
 (.seq
 (.any [6] [2] (.q 0 (qF 3 0 0 1) (.q 3 (qF 6 1 5 1) (.q 4 (oQ 7 (.ld (some 3) (.t 6))) (.e 1 (qV 4 5 3) (.e 2 (qC 5 66 [4]) (.e 5 (oX 8 (.bld (.cons (.st (.cons (.int .i64 0) (.cons (.sl true 4 .nil) (.cons (.int .i64 0) (.cons (.int .i64 0) (.cons (.sl true 1 .nil) .nil)))))) (.cons (.st (.cons (.str []) (.cons (.str []) (.cons (.int .i64 0) .nil)))) .nil)) [(0,(.t 5)),(1,(.t 7))])) (.e 6 (qS 8 2 8) .done))))))))
 .ret))
noncomputable def aTS:CM prog 35 1 [(0,[1,2]),(1,[2]),(1000001,[1,6,1,0,1,3,1,4,2,1,2,2,2,5,2,6,0])]:=.mk (m:=m35) Go.Proofs.Tryz.func35 (by kernel_rfl)
def m36:MC :=
 (.seq
 (rF [1] [oX 1 (.box (.t 0)),
 qB 2 false])
 (.seq
 (rF [2] [qF 3 0 0 1,
 qL 4 3,
 qN 5 true 4,
 oX 6 (.call 67 [(.t 5),(kI 1),(kI 160)]),
 qM 7 6,
 gF 8 7 true 1 1 1,
 gL 9 7 true 8,
 oG 10 7 true (.len true (.t 9)),
 oG 11 7 true (.bin .leq (.t 10) (kI 200)),
 qA 12 7 11,
 qM 13 12,
 gF 14 13 true 0 0 1,
 gL 15 13 true 14,
 oH 16 13 true (.call 68 [(.t 15)]),
 qA 17 13 16,
 qM 18 17,
 gF 19 18 true 1 1 1,
 gL 20 18 true 19,
 oH 21 18 true (.call 68 [(.t 20)]),
 qA 22 18 21,
 qM 23 22,
 gF 24 23 true 0 0 1,
 gL 25 23 true 24,
 oH 26 23 true (.call 69 [(.t 25),(.k (.d (.str [64])))]),
 oG 27 23 true (.un .not (.t 26)),
 qA 28 23 27,
 qM 2 28])
 .ret))
noncomputable def aWf:CM prog 36 1 [(0,[1]),(1,[2])]:=.mk (m:=m36) Go.Proofs.Tryz.func36 (by kernel_rfl)
def m37:MC :=
 (.seq
 (rF [1,2,4] [oX 2 (.box (.t 0)),
 oX 4 (.alloc (.st (.cons (.int .i64 0) (.cons (.sl true 4 .nil) (.cons (.int .i64 0) (.cons (.int .i64 0) (.cons (.sl true 1 .nil) .nil))))))),
 oQ 5 (.mov (.k (.d (.str [])))),
 qB 6 false])
 (.seq
 (rF [1,2,4,7] [oQ 7 (.mov (.k .nil))])
 (.seq
 (.seq
 (rF [1,2,4,7,23,24,25] [qM 22 1,
 oQ 23 (.slx 1 (.t 22) (some (kI 1)) none),
 qN 24 false 23,
 qI 25 0])
 (.block 0
 (.loop
 (.seq
 (rF [1,2,4,7,23,24,25,26] [qT 26 .lss 25 24])
 (.seq
 (cE 26 0)
 (.seq
 (.block 1
 (.seq
 (rF [1,2,4,7,9,23,24,25] [qX 27 1 23 25,
 qL 28 27,
 qM 9 28])
 (.seq
 (rF [1,2,4,7,10,11,23,24,25] [qM 30 9,
 qC 31 70 [30],
 qM 29 31,
 qE 32 29 0,
 qE 33 29 1,
 qM 10 32,
 qM 11 33])
 (.seq
 (.seq
 (rF [1,2,4,7,10,23,24,25,35] [qM 34 11,
 qU 35 34])
 (cS 35
 (.seq
 (rF [4,5,6] [qV 36 5 2,
 qS 5 4 36,
 oQ 5 (.mov (.k (.d (.str [])))),
 qB 6 false])
 .ret)))
 (rF [1,2,4,7,23,24,25] [qM 37 7,
 qM 38 10,
 oX 39 (.bs 1 1 (.int .i64 0) [(0,(.t 38))]),
 oX 40 (.app 1 8 (.t 37) (.t 39)),
 qM 7 40])))))
 (rF [1,2,4,7,23,24,25] [qJ 41 .add 25 1,
 qM 25 41])))))))
 (.seq
 (rF [1,2,4,7,12] [oX 42 (.mkm),
 oN (.ins (.t 42) (.k (.d (.str [119,97,105,116]))) (kI 1)),
 oN (.ins (.t 42) (.k (.d (.str [101,110,116,101,114]))) (kI 3)),
 oN (.ins (.t 42) (.k (.d (.str [104,111,108,100]))) (kI 2)),
 oN (.ins (.t 42) (.k (.d (.str [114,101,108,101,97,115,101]))) (kI 1)),
 oN (.ins (.t 42) (.k (.d (.str [100,101,108,97,121]))) (kI 2)),
 oN (.ins (.t 42) (.k (.d (.str [97,99,116]))) (kI 1)),
 oN (.ins (.t 42) (.k (.d (.str [100,97,121]))) (kI 0)),
 oN (.ins (.t 42) (.k (.d (.str [100,117,101]))) (kI 0)),
 oN (.ins (.t 42) (.k (.d (.str [98,108,111,99,107,101,100]))) (kI 0)),
 oN (.ins (.t 42) (.k (.d (.str [114,111,111,116]))) (kI 0)),
 oN (.ins (.t 42) (.k (.d (.str [104,101,108,100]))) (kI 1)),
 oN (.ins (.t 42) (.k (.d (.str [99,97,115,101]))) (kI 1)),
 qM 43 42,
 qM 12 43])
 (.seq
 (.seq
 (rF [1,2,4,7,13,14] [qM 45 12,
 qM 46 1,
 oQ 47 (.ia 1 (.t 46) (kI 0)),
 qL 48 47,
 oX 49 (.lkp (.t 45) (.t 48)),
 qM 44 49,
 qE 50 44 0,
 qE 51 44 1,
 qM 13 50,
 qM 14 51])
 (.seq
 (rF [1,2,4,7,59] [qM 52 14,
 qU 53 52,
 qM 54 53,
 gM 55 54 false 13,
 gM 56 54 false 7,
 oG 57 54 false (.len false (.t 56)),
 oG 58 54 false (.bin .neq (.t 55) (.t 57)),
 qO 59 54 58])
 (cS 59
 (.seq
 (rF [4,5,6] [qV 60 5 2,
 qS 5 4 60,
 oQ 5 (.mov (.k (.d (.str [])))),
 qB 6 false])
 .ret))))
 (.seq
 (rF [1,2,4,7,15] [qV 61 5 2,
 oX 15 (.alloc (.st (.cons (.int .i64 0) (.cons (.sl true 4 .nil) (.cons (.int .i64 0) (.cons (.int .i64 0) (.cons (.sl true 1 .nil) .nil))))))),
 qS 5 15 61])
 (.seq
 (.seq
 (rF [1,2,4,7,15,16,17] [qM 63 1,
 oQ 64 (.ia 1 (.t 63) (kI 0)),
 qL 65 64,
 qM 66 7,
 qC 67 71 [65,66],
 qM 62 67,
 qE 68 62 0,
 qE 69 62 1,
 oX 16 (.alloc (.st (.cons (.int .i64 0) (.cons (.int .i64 0) (.cons (.int .i64 0) (.cons (.int .i64 0) .nil)))))),
 qS 4 16 68,
 qM 17 69])
 (.seq
 (rF [1,2,4,7,15,16,70] [qM 70 17])
 (cS 70
 (.seq
 (rF [1,2,4,7,15,18,19] [qV 72 5 2,
 oQ 73 (.ld (some 4) (.t 16)),
 qC 74 72 [72,73],
 qM 71 74,
 qE 75 71 0,
 qE 76 71 1,
 oX 18 (.alloc (.st (.cons (.int .i64 0) (.cons (.sl true 4 .nil) (.cons (.int .i64 0) (.cons (.int .i64 0) (.cons (.sl true 1 .nil) .nil))))))),
 qS 5 18 75,
 qM 19 76])
 (.seq
 (.seq
 (rF [1,2,4,7,15,18,78] [qM 77 19,
 qU 78 77])
 (cS 78
 (.seq
 (rF [4,5,6] [qV 79 5 2,
 qS 5 4 79,
 oQ 5 (.mov (.k (.d (.str [])))),
 qB 6 false])
 .ret)))
 (rF [1,2,4,7,15] [qV 80 5 18,
 qS 5 15 80]))))))
 (.seq
 (.any [] [2,4,15,20,21] (.q 2 (qM 84 1) (.q 3 (oQ 85 (.ia 1 (.t 84) (kI 0))) (.q 4 (qL 86 85) (.q 5 (qM 87 7) (.br (.e 0 (qV 82 5 2) (.e 1 (qV 83 5 15) (.e 6 (qC 88 73 [82,83,86,87]) (.q 7 (qM 81 88) (.q 8 (qE 89 81 0) (.q 9 (qE 90 81 1) (.q 10 (qM 20 89) (.q 11 (qM 21 90) .done))))))))
 (.e 1 (qV 83 5 15) (.e 0 (qV 82 5 2) (.e 6 (qC 88 73 [82,83,86,87]) (.q 7 (qM 81 88) (.q 8 (qE 89 81 0) (.q 9 (qE 90 81 1) (.q 10 (qM 20 89) (.q 11 (qM 21 90) .done))))))))))))))
 (.seq
 (.seq
 (rF [2,4,15,20,92] [qM 91 21,
 qU 92 91])
 (cS 92
 (.seq
 (rF [4,5,6] [qV 93 5 2,
 qS 5 4 93,
 oQ 5 (.mov (.k (.d (.str [])))),
 qB 6 false])
 .ret)))
 (.seq
 (rF [4,5,6] [qV 94 5 15,
 qM 95 20,
 qS 5 4 94,
 qM 5 95,
 qB 6 true])
 .ret))))))))))
noncomputable def aUR:CM prog 37 2 [(0,[1,2,4]),(1,[1,2,4,7]),(2,[1,2,4,7,23,24,25]),(3,[1,2,4,7,23,24,25,26]),(4,[1,2,4,7,9,23,24,25]),(5,[1,2,4,7,10,11,23,24,25]),(6,[1,2,4,7,10,23,24,25,35]),(7,[4,5,6]),(8,[1,2,4,7,23,24,25]),(9,[1,2,4,7,23,24,25]),(10,[1,2,4,7,12]),(11,[1,2,4,7,13,14]),(12,[1,2,4,7,59]),(13,[4,5,6]),(14,[1,2,4,7,15]),(15,[1,2,4,7,15,16,17]),(16,[1,2,4,7,15,16,70]),(17,[1,2,4,7,15,18,19]),(18,[1,2,4,7,15,18,78]),(19,[4,5,6]),(20,[1,2,4,7,15]),(21,[2,4,15,20,21]),(22,[2,4,15,20,92]),(23,[4,5,6]),(24,[4,5,6]),(1000021,[0,1,2,1,3,1,4,1,5,3,2,0,2,1,2,6,1,7,1,8,1,9,1,10,1,11,0,2,1,2,0,2,6,1,7,1,8,1,9,1,10,1,11,0])]:=.mk (m:=m37) Go.Proofs.Tryz.func37 (by kernel_rfl)
def m39:MC :=
 (.seq
 (rF [2,3,4] [oX 2 (.box (.t 0)),
 oX 3 (.box (.t 1)),
 oX 4 (.alloc (.st (.cons (.str []) (.cons (.str []) (.cons (.int .i64 0) .nil))))),
 qI 5 0])
 (.seq
 (.block 0
 (.seq
 (rF [2,3,4,8] [oQ 9 (.ld (some 3) (.t 2)),
 qC 10 65 [9],
 qU 11 10,
 qM 12 11,
 oG 13 12 false (.ld (some 2) (.t 3)),
 oH 14 12 false (.call 36 [(.t 13)]),
 oG 15 12 false (.un .not (.t 14)),
 qO 16 12 15,
 qM 8 16])
 (.cond (.t 8)
 (.seq
 (rF [4,5] [oQ 17 (.ld (some 3) (.t 2)),
 qS 3 4 17,
 qI 5 1])
 .ret)
 (.seq
 (rF [2,3,4,18] [qF 19 2 2 2,
 qL 20 19,
 qJ 21 .eql 20 60,
 qM 18 21])
 (cS 18
 (.seq
 (rF [4,5] [oQ 22 (.ld (some 3) (.t 2)),
 qS 3 4 22,
 qI 5 2])
 .ret))))))
 (.seq
 (rF [2,4,6] [qF 24 2 2 2,
 qL 25 24,
 oQ 26 (.ld (some 2) (.t 3)),
 qC 27 75 [25,26],
 qM 23 27,
 qE 28 23 0,
 qE 29 23 1,
 qM 6 28,
 qM 7 29])
 (.seq
 (rF [4,5] [qF 30 0 0 2,
 qL 31 30,
 qF 32 1 1 2,
 qL 33 32,
 qM 34 6,
 qT 35 .add 33 34,
 qF 36 2 2 2,
 qL 37 36,
 qJ 38 .add 37 1,
 oX 39 (.bld (.cons (.str []) (.cons (.str []) (.cons (.int .i64 0) .nil))) [(0,(.t 31)),(1,(.t 35)),(2,(.t 38))]),
 qS 3 4 39,
 qI 5 0])
 .ret))))
noncomputable def aFF:CM prog 39 2 [(0,[2,3,4]),(1,[2,3,4,8]),(2,[4,5]),(3,[2,3,4,18]),(4,[4,5]),(5,[2,4,6]),(6,[4,5])]:=.mk (m:=m39) Go.Proofs.Tryz.func39 (by kernel_rfl)
def m44:MC :=
 (.seq
 (rF [0,1] [oQ 4 (.mov (.k .nil))])
 (.seq
 (rF [0,1,5] [oX 8 (.bs 1 0 (.str []) []),
 qM 5 8])
 (.seq
 (rF [0,1,5,6] [qI 6 0])
 (.seq
 (.seq
 (rF [0,1,5,6,7] [qI 7 0])
 (.block 0
 (.loop
 (.seq
 (.seq
 (rF [0,1,5,6,7,12] [qM 9 7,
 qM 10 0,
 qN 11 true 10,
 qT 12 .lss 9 11])
 (cE 12 0))
 (.seq
 (.block 1
 (.seq
 (rF [0,1,5,6,7,19] [qM 15 0,
 qM 16 7,
 oQ 17 (.ix (.t 15) (.t 16)),
 qM 18 1,
 qT 19 .eql 17 18])
 (cS 19
 (.seq
 (rF [0,1,5,7] [qM 20 5,
 qM 21 0,
 qM 22 6,
 qM 23 7,
 oQ 24 (.sls (.t 21) (some (.t 22)) (some (.t 23))),
 oX 25 (.bs 1 1 (.str []) [(0,(.t 24))]),
 oX 26 (.app 1 16 (.t 20) (.t 25)),
 qM 5 26])
 (rF [0,1,5,6,7] [qM 27 7,
 qJ 28 .add 27 1,
 qM 6 28])))))
 (rF [0,1,5,6,7] [qM 13 7,
 qJ 14 .add 13 1,
 qM 7 14]))))))
 (.seq
 (rF [4] [qM 29 5,
 qM 30 0,
 qM 31 6,
 oQ 32 (.sls (.t 30) (some (.t 31)) none),
 oX 33 (.bs 1 1 (.str []) [(0,(.t 32))]),
 oX 34 (.app 1 16 (.t 29) (.t 33)),
 qM 4 34])
 .ret)))))
noncomputable def aU1:CM prog 44 2 [(0,[0,1]),(1,[0,1,5]),(2,[0,1,5,6]),(3,[0,1,5,6,7]),(4,[0,1,5,6,7,12]),(5,[0,1,5,6,7]),(6,[0,1,5,6,7,19]),(7,[0,1,5,7]),(8,[0,1,5,6,7]),(9,[4])]:=.mk (m:=m44) Go.Proofs.Tryz.func44 (by kernel_rfl)
def m46:MC :=
 (.seq
 (rF [0,2] [oX 2 (.alloc (.st (.cons (.int .i64 0) (.cons (.sl true 4 .nil) (.cons (.int .i64 0) (.cons (.int .i64 0) (.cons (.sl true 1 .nil) .nil))))))),
 qB 3 false])
 (.seq
 (.seq
 (rF [0,2,6] [qM 4 0,
 qC 5 79 [4],
 qU 6 5])
 (cS 6
 (.seq
 (rF [2,3] [oX 7 (.bld (.cons (.int .i64 0) (.cons (.sl true 4 .nil) (.cons (.int .i64 0) (.cons (.int .i64 0) (.cons (.sl true 1 .nil) .nil))))) []),
 qS 5 2 7,
 qB 3 false])
 .ret)))
 (.seq
 (rF [2,3] [qM 8 0,
 oX 9 (.bs 4 0 (.st (.cons (.int .i64 0) (.cons (.int .i64 0) (.cons (.int .i64 0) (.cons (.sl true 1 .nil) .nil))))) []),
 oX 10 (.bs 1 0 (.str []) []),
 oX 11 (.bld (.cons (.int .i64 0) (.cons (.sl true 4 .nil) (.cons (.int .i64 0) (.cons (.int .i64 0) (.cons (.sl true 1 .nil) .nil))))) [(0,(.t 8)),(1,(.t 9)),(4,(.t 10))]),
 qS 5 2 11,
 qB 3 true])
 .ret)))
noncomputable def aWn:CM prog 46 1 [(0,[0,2]),(1,[0,2,6]),(2,[2,3]),(3,[2,3])]:=.mk (m:=m46) Go.Proofs.Tryz.func46 (by kernel_rfl)
def m47:MC :=
 (.seq
 (rF [0] [oQ 2 (.mov (.k .nil)),
 qI 3 0])
 (.seq
 (rF [0,4] [oX 9 (.bs 2 0 (.st (.cons (.str []) (.cons (.str []) .nil))) []),
 qM 4 9])
 (.seq
 (rF [0,4,5] [qI 5 0])
 (.seq
 (.block 0
 (.loop
 (.seq
 (.seq
 (rF [0,4,5,18] [qM 10 5,
 qM 11 0,
 qN 12 true 11,
 qT 13 .lss 10 12,
 qM 14 13,
 gM 15 14 true 4,
 oG 16 14 true (.len false (.t 15)),
 oG 17 14 true (.bin .lss (.t 16) (kI 60)),
 qA 18 14 17])
 (cE 18 0))
 (.block 1
 (.seq
 (rF [0,4,5,6] [qM 19 0,
 qM 20 5,
 oQ 21 (.sls (.t 19) (some (.t 20)) none),
 oX 22 (.call 44 [(.t 21),(.k (.d (.int .u8 10)))]),
 qM 6 22])
 (.seq
 (rF [0,4,5,6,7,8] [qM 24 6,
 oQ 25 (.ia 1 (.t 24) (kI 0)),
 qL 26 25,
 qM 27 4,
 qN 28 false 27,
 qC 29 80 [26,28],
 qM 23 29,
 qE 30 23 0,
 qE 31 23 1,
 oX 7 (.alloc (.st (.cons (.str []) (.cons (.str []) .nil)))),
 qS 2 7 30,
 qM 8 31])
 (.seq
 (.seq
 (rF [0,4,5,6,7,38] [qM 32 6,
 qN 33 false 32,
 qJ 34 .lss 33 2,
 qM 35 34,
 gM 36 35 false 8,
 oG 37 35 false (.un .not (.t 36)),
 qO 38 35 37])
 (cS 38
 (.exit 0)))
 (.seq
 (rF [0,4,5,6] [qM 39 4,
 oQ 40 (.ld (some 2) (.t 7)),
 oX 41 (.bs 2 1 (.st (.cons (.str []) (.cons (.str []) .nil))) [(0,(.t 40))]),
 oX 42 (.app 2 32 (.t 39) (.t 41)),
 qM 4 42])
 (rF [0,4,5] [qM 43 5,
 qM 44 6,
 oQ 45 (.ia 1 (.t 44) (kI 0)),
 qL 46 45,
 qN 47 true 46,
 qT 48 .add 43 47,
 qJ 49 .add 48 1,
 qM 5 49])))))))))
 (.seq
 (rF [2,3] [qM 50 4,
 qM 51 5,
 qM 2 50,
 qM 3 51])
 .ret)))))
noncomputable def aTW:CM prog 47 1 [(0,[0]),(1,[0,4]),(2,[0,4,5]),(3,[0,4,5,18]),(4,[0,4,5,6]),(5,[0,4,5,6,7,8]),(6,[0,4,5,6,7,38]),(7,[0,4,5,6]),(8,[0,4,5]),(9,[2,3])]:=.mk (m:=m47) Go.Proofs.Tryz.func47 (by kernel_rfl)
def m48:MC :=
 (.seq
 (rF [0,2] [oX 2 (.alloc (.st (.cons (.int .i64 0) (.cons (.sl true 4 .nil) (.cons (.int .i64 0) (.cons (.int .i64 0) (.cons (.sl true 1 .nil) .nil))))))),
 qB 3 false])
 (.seq
 (.seq
 (rF [0,2,6] [qM 4 0,
 qC 5 81 [4],
 qU 6 5])
 (cS 6
 (.seq
 (rF [2,3] [oX 7 (.bld (.cons (.int .i64 0) (.cons (.sl true 4 .nil) (.cons (.int .i64 0) (.cons (.int .i64 0) (.cons (.sl true 1 .nil) .nil))))) []),
 qS 5 2 7,
 qB 3 false])
 .ret)))
 (.seq
 (rF [2,3] [qM 8 0,
 oX 9 (.bld (.cons (.int .i64 0) (.cons (.sl true 4 .nil) (.cons (.int .i64 0) (.cons (.int .i64 0) (.cons (.sl true 1 .nil) .nil))))) [(0,(.t 8))]),
 qS 5 2 9,
 qB 3 true])
 .ret)))
noncomputable def aVL:CM prog 48 1 [(0,[0,2]),(1,[0,2,6]),(2,[2,3]),(3,[2,3])]:=.mk (m:=m48) Go.Proofs.Tryz.func48 (by kernel_rfl)
def m49:MC :=
 (.seq
 (rF [1] [oX 1 (.box (.t 0)),
 oQ 2 (.mov (.k .nil)),
 qB 3 false])
 (.seq
 (rF [1,4] [qF 9 0 0 1,
 qL 10 9,
 qF 11 1 1 1,
 qL 12 11,
 qT 13 .add 10 12,
 qM 4 13])
 (.seq
 (rF [1,4,5,6] [qM 15 4,
 qC 16 82 [15],
 qM 14 16,
 qE 17 14 0,
 qE 18 14 1,
 qM 5 17,
 qM 6 18])
 (.seq
 (rF [1,4,5,6,8] [qF 20 0 0 1,
 qL 21 20,
 qC 22 82 [21],
 qM 19 22,
 qE 23 19 0,
 qE 24 19 1,
 qM 7 23,
 qM 8 24])
 (.seq
 (.reg true [2,3] [qM 25 5,
 qM 26 6,
 qM 27 4,
 qN 28 true 27,
 qT 29 .eql 26 28,
 qM 30 29,
 gM 31 30 true 8,
 gF 32 30 true 0 0 1,
 gL 33 30 true 32,
 oG 34 30 true (.len true (.t 33)),
 oG 35 30 true (.bin .eql (.t 31) (.t 34)),
 qA 36 30 35,
 qM 37 36,
 gF 38 37 true 2 2 1,
 gL 39 37 true 38,
 gM 40 37 true 5,
 oG 41 37 true (.len false (.t 40)),
 oG 42 37 true (.bin .eql (.t 39) (.t 41)),
 qA 43 37 42,
 qM 2 25,
 qM 3 43])
 .ret)))))
noncomputable def aVA:CM prog 49 1 [(0,[1]),(1,[1,4]),(2,[1,4,5,6]),(3,[1,4,5,6,8]),(4,[2,3])]:=.mk (m:=m49) Go.Proofs.Tryz.func49 (by kernel_rfl)
end Go.Pe.Tryz
