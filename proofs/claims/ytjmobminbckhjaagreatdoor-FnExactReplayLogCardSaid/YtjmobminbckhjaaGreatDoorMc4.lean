/-
The compact code of the functions that the law reaches,printed by gen.py,each with the proof that the machine's code is compiled to it.
-/
import Derived.Test.YtjmobminbckhjaaGreatDoorMc1
import Derived.Test.YtjmobminbckhjaaGreatDoorProg
import Derived.KernelRfl
set_option maxRecDepth 100000
namespace Go.Pe.Tryz
open Go.Pe
def m61:MC :=
 (.seq
 (rF [0,3] [oX 3 (.box (.t 1)),
 oQ 4 (.mov (.k (.d (.str []))))])
 (.seq
 (.reg true [4] [qM 5 0,
 oQ 6 (.callP 89 [(.t 5)]),
 oQ 7 (.bin .add (.t 6) (.k (.d (.str [32])))),
 qF 8 0 0 3,
 qL 9 8,
 qT 10 .add 7 9,
 oQ 11 (.bin .add (.t 10) (.k (.d (.str [64])))),
 qF 12 1 1 3,
 qL 13 12,
 qT 14 .add 11 13,
 oQ 15 (.callP 97 [(.t 14)]),
 oQ 16 (.bin .add (.t 15) (.k (.d (.str [10])))),
 qM 4 16])
 .ret))
noncomputable def aUP:CM prog 61 2 [(0,[0,3]),(1,[4])]:=.mk (m:=m61) Go.Proofs.Tryz.func61 (by kernel_rfl)
def m64:MC :=
 (.seq
 (rF [1] [oX 1 (.box (.t 0)),
 qB 2 false])
 (.seq
 (.seq
 (rF [1,38] [qF 5 0 0 1,
 qL 6 5,
 qC 7 81 [6],
 qU 8 7,
 qM 9 8,
 gF 10 9 false 1 1 1,
 gL 11 9 false 10,
 oG 12 9 false (.len false (.t 11)),
 oG 13 9 false (.bin .gtr (.t 12) (kI 6)),
 qO 14 9 13,
 qM 15 14,
 gF 16 15 false 2 2 1,
 gL 17 15 false 16,
 oH 18 15 false (.call 67 [(.t 17),(kI 0),(kI 999)]),
 oG 19 15 false (.un .not (.t 18)),
 qO 20 15 19,
 qM 21 20,
 gF 22 21 false 3 3 1,
 gL 23 21 false 22,
 oH 24 21 false (.call 67 [(.t 23),(kI 0),(kI 999)]),
 oG 25 21 false (.un .not (.t 24)),
 qO 26 21 25,
 qM 27 26,
 gF 28 27 false 4 4 1,
 gL 29 27 false 28,
 oG 30 27 false (.len false (.t 29)),
 oG 31 27 false (.bin .gtr (.t 30) (kI 0)),
 gM 32 27 false 31,
 gF 33 32 true 4 4 1,
 gL 34 32 true 33,
 oH 35 32 true (.call 99 [(.t 34)]),
 oG 36 32 true (.un .not (.t 35)),
 oG 37 27 false (.pick (.t 32) (.t 36) (kB false)),
 qO 38 27 37])
 (cS 38
 (.seq
 (rF [2] [qB 2 false])
 .ret)))
 (.seq
 (.seq
 (rF [1,40,41,42] [qF 39 1 1 1,
 qL 40 39,
 qN 41 false 40,
 qI 42 0])
 (.block 0
 (.loop
 (.seq
 (rF [1,40,41,42,43] [qT 43 .lss 42 41])
 (.seq
 (cE 43 0)
 (.seq
 (.block 1
 (.seq
 (rF [1,3,4,40,41,42] [qM 44 42,
 qX 45 4 40 42,
 oQ 46 (.ld (some 4) (.t 45)),
 oX 4 (.alloc (.st (.cons (.int .i64 0) (.cons (.int .i64 0) (.cons (.int .i64 0) (.cons (.sl true 1 .nil) .nil)))))),
 qM 3 44,
 qS 4 4 46])
 (.seq
 (.reg true [1,40,41,42,65] [oQ 47 (.ld (some 4) (.t 4)),
 oQ 48 (.callP 100 [(.t 47)]),
 qU 49 48,
 qM 50 49,
 gM 51 50 false 3,
 oG 52 50 false (.bin .gtr (.t 51) (kI 0)),
 gM 53 50 false 52,
 gF 54 53 true 1 1 1,
 gL 55 53 true 54,
 gM 56 53 true 3,
 oG 57 53 true (.bin .sub (.t 56) (kI 1)),
 oG 58 53 true (.ia 4 (.t 55) (.t 57)),
 gF 59 53 true 0 0 58,
 gL 60 53 true 59,
 gF 61 53 true 0 0 4,
 gL 62 53 true 61,
 oG 63 53 true (.bin .geq (.t 60) (.t 62)),
 oG 64 50 false (.pick (.t 53) (.t 63) (kB false)),
 qO 65 50 64])
 (cS 65
 (.seq
 (rF [2] [qB 2 false])
 .ret)))))
 (rF [1,40,41,42] [qJ 66 .add 42 1,
 qM 42 66])))))))
 (.seq
 (rF [2] [qB 2 true])
 .ret))))
noncomputable def aPa:CM prog 64 1 [(0,[1]),(1,[1,38]),(2,[2]),(3,[1,40,41,42]),(4,[1,40,41,42,43]),(5,[1,3,4,40,41,42]),(6,[1,40,41,42,65]),(7,[2]),(8,[1,40,41,42]),(9,[2])]:=.mk (m:=m64) Go.Proofs.Tryz.func64 (by kernel_rfl)
def m65:MC :=
 (.seq
 (rF [1] [oX 1 (.box (.t 0)),
 qB 2 false])
 (.seq
 (rF [4] [oQ 6 (.ld (some 3) (.t 1)),
 qC 7 49 [6],
 qM 5 7,
 qE 8 5 0,
 qE 9 5 1,
 qM 3 8,
 qM 4 9])
 (.seq
 (rF [2] [qM 10 4,
 qM 2 10])
 .ret)))
noncomputable def aTY:CM prog 65 1 [(0,[1]),(1,[4]),(2,[2])]:=.mk (m:=m65) Go.Proofs.Tryz.func65 (by kernel_rfl)
def m66:MC :=
 (.seq
 (rF [1,2] [oX 1 (.box (.t 0)),
 oX 2 (.alloc (.st (.cons (.int .i64 0) (.cons (.sl true 4 .nil) (.cons (.int .i64 0) (.cons (.int .i64 0) (.cons (.sl true 1 .nil) .nil)))))))])
 (.seq
 (rF [1,2] [qF 4 1 1 1,
 qL 5 4,
 qC 6 101 [5],
 qF 7 1 1 1,
 qS 1 7 6])
 (.seq
 (.seq
 (rF [1,2,10,11] [qF 8 1 1 1,
 qL 9 8,
 qN 10 false 9,
 qI 11 0])
 (.block 0
 (.loop
 (.seq
 (rF [1,2,10,11,12] [qT 12 .lss 11 10])
 (.seq
 (cE 12 0)
 (.seq
 (.block 1
 (.seq
 (rF [1,2,3,10,11] [qM 13 11,
 qM 3 13])
 (.any [12] [1,2,10,11] (.q 0 (qF 14 1 1 1) (.q 1 (qL 15 14) (.q 2 (qM 16 3) (.q 3 (qF 17 1 1 1) (.q 4 (qL 18 17) (.q 5 (qM 19 3) (.q 6 (qX 20 4 18 19) (.q 7 (qF 21 3 3 20) (.q 8 (qL 22 21) (.e 9 (qC 23 102 [22]) (.q 10 (qX 24 4 15 16) (.q 11 (qF 25 3 3 24) (.e 12 (qS 1 25 23) .done))))))))))))))))
 (rF [1,2,10,11] [qJ 26 .add 11 1,
 qM 11 26])))))))
 (.seq
 (rF [1,2] [qF 27 4 4 1,
 qL 28 27,
 qC 29 103 [28],
 qF 30 4 4 1,
 qS 1 30 29])
 (.seq
 (rF [2] [qV 31 5 1,
 qS 5 2 31])
 .ret)))))
noncomputable def aVe:CM prog 66 1 [(0,[1,2]),(1,[1,2]),(2,[1,2,10,11]),(3,[1,2,10,11,12]),(4,[1,2,3,10,11]),(5,[1,2,10,11]),(6,[1,2,10,11]),(7,[1,2]),(8,[2]),(1000005,[1,12,1,0,1,1,1,2,1,3,1,4,1,5,1,6,1,7,1,8,2,9,1,10,1,11,2,12,0])]:=.mk (m:=m66) Go.Proofs.Tryz.func66 (by kernel_rfl)
def m67:MC :=
 (.seq
 (rF [0,1,2] [qB 6 false])
 (.seq
 (rF [6] [qM 7 1,
 qM 8 0,
 qT 9 .leq 7 8,
 qM 10 9,
 gM 11 10 true 0,
 gM 12 10 true 2,
 oG 13 10 true (.bin .leq (.t 11) (.t 12)),
 qA 14 10 13,
 qM 6 14])
 .ret))
noncomputable def aU6:CM prog 67 3 [(0,[0,1,2]),(1,[6])]:=.mk (m:=m67) Go.Proofs.Tryz.func67 (by kernel_rfl)
def m68:MC :=
 (.seq
 (rF [0] [qB 2 false])
 (.seq
 (.seq
 (rF [0,5,6] [qM 4 0,
 qN 5 true 4,
 qI 6 0])
 (.block 0
 (.loop
 (.seq
 (rF [0,5,6,7] [qT 7 .lss 6 5])
 (.seq
 (cE 7 0)
 (.seq
 (.block 1
 (.seq
 (rF [0,3,5,6] [qM 8 6,
 qM 3 8])
 (.seq
 (rF [0,5,6,24] [qM 9 0,
 qM 10 3,
 oQ 11 (.ix (.t 9) (.t 10)),
 oQ 12 (.bin .lss (.t 11) (.k (.d (.int .u8 32)))),
 qM 13 12,
 gM 14 13 false 0,
 gM 15 13 false 3,
 oG 16 13 false (.ix (.t 14) (.t 15)),
 oG 17 13 false (.bin .gtr (.t 16) (.k (.d (.int .u8 126)))),
 qO 18 13 17,
 qM 19 18,
 gM 20 19 false 0,
 gM 21 19 false 3,
 oG 22 19 false (.ix (.t 20) (.t 21)),
 oG 23 19 false (.bin .eql (.t 22) (.k (.d (.int .u8 35)))),
 qO 24 19 23])
 (cS 24
 (.seq
 (rF [2] [qB 2 false])
 .ret)))))
 (rF [0,5,6] [qJ 25 .add 6 1,
 qM 6 25])))))))
 (.seq
 (rF [2] [qB 2 true])
 .ret)))
noncomputable def aTM:CM prog 68 1 [(0,[0]),(1,[0,5,6]),(2,[0,5,6,7]),(3,[0,3,5,6]),(4,[0,5,6,24]),(5,[2]),(6,[0,5,6]),(7,[2])]:=.mk (m:=m68) Go.Proofs.Tryz.func68 (by kernel_rfl)
def m70:MC :=
 (.seq
 (rF [0] [qI 2 0,
 qB 3 false])
 (.seq
 (rF [0,4,5] [qM 7 0,
 qC 8 105 [7],
 qM 6 8,
 qE 9 6 0,
 qE 10 6 1,
 qM 4 9,
 qM 5 10])
 (.seq
 (.seq
 (rF [4,23] [qM 11 5,
 oQ 12 (.ie .neq (.t 11) (.k (.d (.err true)))),
 qM 13 12,
 gM 14 13 false 4,
 oH 15 13 false (.call 67 [(.t 14),(.k (.d (.int .i64 (-999999)))),(kI 999999)]),
 oG 16 13 false (.un .not (.t 15)),
 qO 17 13 16,
 qM 18 17,
 gM 19 18 false 4,
 oH 20 18 false (.call 106 [(.t 19)]),
 gM 21 18 false 0,
 oG 22 18 false (.bin .neq (.t 20) (.t 21)),
 qO 23 18 22])
 (cS 23
 (.seq
 (rF [2,3] [qI 2 0,
 qB 3 false])
 .ret)))
 (.seq
 (rF [2,3] [qM 24 4,
 qM 2 24,
 qB 3 true])
 .ret))))
noncomputable def aGy:CM prog 70 1 [(0,[0]),(1,[0,4,5]),(2,[4,23]),(3,[2,3]),(4,[2,3])]:=.mk (m:=m70) Go.Proofs.Tryz.func70 (by kernel_rfl)
def m71:MC :=
 (.seq
 (rF [0,1,4] [oX 4 (.alloc (.st (.cons (.int .i64 0) (.cons (.int .i64 0) (.cons (.int .i64 0) (.cons (.int .i64 0) .nil)))))),
 qB 5 false])
 (.seq
 (.seq
 (rF [1,4,6] [qM 6 0])
 (.block 0
 (.seq
 (rF [1,4,6,7] [oQ 8 (.bin .eql (.t 6) (.k (.d (.str [119,97,105,116])))),
 qM 7 8])
 (.cond (.t 7)
 (.seq
 (rF [4,5] [qM 9 1,
 oQ 10 (.ia 1 (.t 9) (kI 0)),
 qL 11 10,
 oX 12 (.bld (.cons (.int .i64 0) (.cons (.int .i64 0) (.cons (.int .i64 0) (.cons (.int .i64 0) .nil)))) [(0,(kI 1)),(3,(.t 11))]),
 qS 4 4 12,
 qB 5 true])
 .ret)
 (.seq
 (rF [1,4,6,13] [oQ 14 (.bin .eql (.t 6) (.k (.d (.str [101,110,116,101,114])))),
 qM 13 14])
 (.cond (.t 13)
 (.seq
 (.any [10,11] [4,5] (.q 0 (qM 15 1) (.q 1 (oQ 16 (.ia 1 (.t 15) (kI 0))) (.q 2 (qL 17 16) (.q 3 (qM 18 1) (.q 4 (oQ 19 (.ia 1 (.t 18) (kI 1))) (.q 5 (qL 20 19) (.q 6 (qM 21 1) (.q 7 (oQ 22 (.ia 1 (.t 21) (kI 2))) (.q 8 (qL 23 22) (.e 9 (oX 24 (.bld (.cons (.int .i64 0) (.cons (.int .i64 0) (.cons (.int .i64 0) (.cons (.int .i64 0) .nil)))) [(0,(kI 2)),(1,(.t 17)),(2,(.t 20)),(3,(.t 23))])) (.e 10 (qS 4 4 24) (.e 11 (qB 5 true) .done)))))))))))))
 .ret)
 (.seq
 (rF [1,4,6,25] [oQ 26 (.bin .eql (.t 6) (.k (.d (.str [104,111,108,100])))),
 qM 25 26])
 (.cond (.t 25)
 (.seq
 (.any [7,8] [4,5] (.q 0 (qM 27 1) (.q 1 (oQ 28 (.ia 1 (.t 27) (kI 0))) (.q 2 (qL 29 28) (.q 3 (qM 30 1) (.q 4 (oQ 31 (.ia 1 (.t 30) (kI 1))) (.q 5 (qL 32 31) (.e 6 (oX 33 (.bld (.cons (.int .i64 0) (.cons (.int .i64 0) (.cons (.int .i64 0) (.cons (.int .i64 0) .nil)))) [(0,(kI 3)),(1,(.t 29)),(3,(.t 32))])) (.e 7 (qS 4 4 33) (.e 8 (qB 5 true) .done))))))))))
 .ret)
 (.seq
 (rF [1,4,6,34] [oQ 35 (.bin .eql (.t 6) (.k (.d (.str [114,101,108,101,97,115,101])))),
 qM 34 35])
 (.cond (.t 34)
 (.seq
 (rF [4,5] [qM 36 1,
 oQ 37 (.ia 1 (.t 36) (kI 0)),
 qL 38 37,
 oX 39 (.bld (.cons (.int .i64 0) (.cons (.int .i64 0) (.cons (.int .i64 0) (.cons (.int .i64 0) .nil)))) [(0,(kI 4)),(3,(.t 38))]),
 qS 4 4 39,
 qB 5 true])
 .ret)
 (.seq
 (rF [1,4,6,40] [oQ 41 (.bin .eql (.t 6) (.k (.d (.str [100,101,108,97,121])))),
 qM 40 41])
 (.cond (.t 40)
 (.seq
 (.any [7,8] [4,5] (.q 0 (qM 42 1) (.q 1 (oQ 43 (.ia 1 (.t 42) (kI 0))) (.q 2 (qL 44 43) (.q 3 (qM 45 1) (.q 4 (oQ 46 (.ia 1 (.t 45) (kI 1))) (.q 5 (qL 47 46) (.e 6 (oX 48 (.bld (.cons (.int .i64 0) (.cons (.int .i64 0) (.cons (.int .i64 0) (.cons (.int .i64 0) .nil)))) [(0,(kI 5)),(1,(.t 44)),(3,(.t 47))])) (.e 7 (qS 4 4 48) (.e 8 (qB 5 true) .done))))))))))
 .ret)
 (.seq
 (rF [1,4,49] [oQ 50 (.bin .eql (.t 6) (.k (.d (.str [97,99,116])))),
 qM 49 50])
 (cS 49
 (.seq
 (rF [4,5] [qM 51 1,
 oQ 52 (.ia 1 (.t 51) (kI 0)),
 qL 53 52,
 oX 54 (.bld (.cons (.int .i64 0) (.cons (.int .i64 0) (.cons (.int .i64 0) (.cons (.int .i64 0) .nil)))) [(0,(kI 6)),(1,(.t 53))]),
 qS 4 4 54,
 qB 5 true])
 .ret)))))))))))))))
 (.seq
 (rF [4,5] [oX 55 (.bld (.cons (.int .i64 0) (.cons (.int .i64 0) (.cons (.int .i64 0) (.cons (.int .i64 0) .nil)))) []),
 qS 4 4 55,
 qB 5 false])
 .ret)))
noncomputable def nU:CM prog 71 2 [(0,[0,1,4]),(1,[1,4,6]),(2,[1,4,6,7]),(3,[4,5]),(4,[1,4,6,13]),(5,[4,5]),(6,[1,4,6,25]),(7,[4,5]),(8,[1,4,6,34]),(9,[4,5]),(10,[1,4,6,40]),(11,[4,5]),(12,[1,4,49]),(13,[4,5]),(14,[4,5]),(1000005,[2,10,11,1,0,1,1,1,2,1,3,1,4,1,5,1,6,1,7,1,8,2,9,2,10,2,11,0]),(1000007,[2,7,8,1,0,1,1,1,2,1,3,1,4,1,5,2,6,2,7,2,8,0]),(1000011,[2,7,8,1,0,1,1,1,2,1,3,1,4,1,5,2,6,2,7,2,8,0])]:=.mk (m:=m71) Go.Proofs.Tryz.func71 (by kernel_rfl)
def m72:MC :=
 (.seq
 (rF [2,3,4] [oX 2 (.box (.t 0)),
 oX 3 (.box (.t 1)),
 oX 4 (.alloc (.st (.cons (.int .i64 0) (.cons (.sl true 4 .nil) (.cons (.int .i64 0) (.cons (.int .i64 0) (.cons (.sl true 1 .nil) .nil))))))),
 qB 5 false])
 (.seq
 (.seq
 (rF [2,3,4,15] [qV 7 5 2,
 qC 8 64 [7],
 qU 9 8,
 qM 10 9,
 gF 11 10 false 3 3 3,
 gL 12 10 false 11,
 oH 13 10 false (.call 67 [(.t 12),(kI 0),(kI 20000)]),
 oG 14 10 false (.un .not (.t 13)),
 qO 15 10 14])
 (cS 15
 (.seq
 (rF [4,5] [oX 16 (.bld (.cons (.int .i64 0) (.cons (.sl true 4 .nil) (.cons (.int .i64 0) (.cons (.int .i64 0) (.cons (.sl true 1 .nil) .nil))))) []),
 qS 5 4 16,
 qB 5 false])
 .ret)))
 (.seq
 (rF [3,4,6] [qV 17 5 2,
 qC 18 66 [17],
 oX 6 (.alloc (.st (.cons (.int .i64 0) (.cons (.sl true 4 .nil) (.cons (.int .i64 0) (.cons (.int .i64 0) (.cons (.sl true 1 .nil) .nil))))))),
 qS 5 6 18])
 (.seq
 (.seq
 (rF [4,6,26] [oQ 19 (.ld (some 4) (.t 3)),
 qC 20 107 [6,19],
 qU 21 20,
 qM 22 21,
 gV 23 22 false 5 6,
 oH 24 22 false (.call 64 [(.t 23)]),
 oG 25 22 false (.un .not (.t 24)),
 qO 26 22 25])
 (cS 26
 (.seq
 (rF [4,5] [oX 27 (.bld (.cons (.int .i64 0) (.cons (.sl true 4 .nil) (.cons (.int .i64 0) (.cons (.int .i64 0) (.cons (.sl true 1 .nil) .nil))))) []),
 qS 5 4 27,
 qB 5 false])
 .ret)))
 (.seq
 (rF [4,5] [qV 28 5 6,
 qS 5 4 28,
 qB 5 true])
 .ret)))))
noncomputable def aKC:CM prog 72 2 [(0,[2,3,4]),(1,[2,3,4,15]),(2,[4,5]),(3,[3,4,6]),(4,[4,6,26]),(5,[4,5]),(6,[4,5])]:=.mk (m:=m72) Go.Proofs.Tryz.func72 (by kernel_rfl)
def m73:MC :=
 (.seq
 (rF [2,3,4,5] [oX 4 (.box (.t 0)),
 oX 5 (.box (.t 1)),
 oQ 8 (.mov (.k (.d (.str [])))),
 qB 9 false])
 (.seq
 (.seq
 (rF [3,4,5,20] [qM 20 2])
 (.block 0
 (.seq
 (.seq
 (rF [3,4,5,20,21] [oQ 22 (.bin .eql (.t 20) (.k (.d (.str [119,97,105,116])))),
 qM 21 22])
 (.cond (.t 21)
 .skip
 (rF [3,4,5,20,21] [oQ 23 (.bin .eql (.t 20) (.k (.d (.str [100,97,121])))),
 qM 21 23])))
 (.cond (.t 21)
 (.seq
 (rF [8,9] [qF 24 0 0 5,
 qL 25 24,
 qC 26 106 [25],
 qM 8 26,
 qB 9 true])
 .ret)
 (.seq
 (rF [3,4,5,20,27] [oQ 28 (.bin .eql (.t 20) (.k (.d (.str [114,101,108,101,97,115,101])))),
 qM 27 28])
 (.cond (.t 27)
 (.seq
 (.reg true [10,11] [qV 30 5 4,
 qM 31 3,
 oQ 32 (.ia 1 (.t 31) (kI 0)),
 qL 33 32,
 oQ 34 (.callP 108 [(.t 30),(.t 33)]),
 qM 29 34,
 qE 35 29 0,
 qE 36 29 1,
 qM 10 35,
 qM 11 36])
 (.seq
 (rF [8,9] [qM 37 10,
 qC 38 109 [37],
 qM 39 11,
 qM 8 38,
 qM 9 39])
 .ret))
 (.seq
 (rF [3,5,20,40] [oQ 41 (.bin .eql (.t 20) (.k (.d (.str [97,99,116])))),
 qM 40 41])
 (.cond (.t 40)
 (.seq
 (rF [8,9] [qF 42 2 2 5,
 qL 43 42,
 qF 44 3 3 5,
 qL 45 44,
 qF 46 4 4 5,
 qL 47 46,
 qN 48 false 47,
 oX 49 (.bs 1 3 (.int .i64 0) [(0,(.t 43)),(1,(.t 45)),(2,(.t 48))]),
 qC 50 109 [49],
 qM 8 50,
 qB 9 true])
 .ret)
 (.seq
 (rF [3,5,20,51] [oQ 52 (.bin .eql (.t 20) (.k (.d (.str [100,117,101])))),
 qM 51 52])
 (.cond (.t 51)
 (.seq
 (rF [12,13] [qV 54 5 5,
 qC 55 110 [54],
 qM 53 55,
 qE 56 53 0,
 qE 57 53 1,
 qM 12 56,
 qM 13 57])
 (.seq
 (rF [8,9] [qM 58 12,
 qC 59 109 [58],
 qM 60 13,
 qM 8 59,
 qM 9 60])
 .ret))
 (.seq
 (rF [3,5,20,61] [oQ 62 (.bin .eql (.t 20) (.k (.d (.str [98,108,111,99,107,101,100])))),
 qM 61 62])
 (.cond (.t 61)
 (.seq
 (rF [14,15] [qV 64 5 5,
 qC 65 111 [64],
 qM 63 65,
 qE 66 63 0,
 qE 67 63 1,
 qM 14 66,
 qM 15 67])
 (.seq
 (rF [8,9] [qM 68 14,
 qC 69 109 [68],
 qM 70 15,
 qM 8 69,
 qM 9 70])
 .ret))
 (.seq
 (rF [3,5,20,71] [oQ 72 (.bin .eql (.t 20) (.k (.d (.str [114,111,111,116])))),
 qM 71 72])
 (.cond (.t 71)
 (.seq
 (rF [16,17] [qV 74 5 5,
 qC 75 112 [74],
 qM 73 75,
 qE 76 73 0,
 qE 77 73 1,
 qM 16 76,
 qM 17 77])
 (.seq
 (rF [8,9] [qM 78 16,
 qC 79 106 [78],
 qM 80 17,
 qM 8 79,
 qM 9 80])
 .ret))
 (.seq
 (rF [3,5,81] [oQ 82 (.bin .eql (.t 20) (.k (.d (.str [104,101,108,100])))),
 qM 81 82])
 (cS 81
 (.seq
 (.reg true [18,19] [qV 84 5 5,
 qM 85 3,
 oQ 86 (.ia 1 (.t 85) (kI 0)),
 qL 87 86,
 oQ 88 (.callP 108 [(.t 84),(.t 87)]),
 qM 83 88,
 qE 89 83 0,
 qE 90 83 1,
 qM 18 89,
 qM 19 90])
 (.seq
 (rF [8,9] [qM 91 18,
 qC 92 109 [91],
 qM 93 19,
 qM 8 92,
 qM 9 93])
 .ret))))))))))))))))))
 (.seq
 (.reg true [8,9] [qV 94 5 5,
 qM 95 3,
 oQ 96 (.ia 1 (.t 95) (kI 0)),
 qL 97 96,
 oQ 98 (.callP 113 [(.t 94),(.t 97)]),
 qE 99 98 0,
 qE 100 98 1,
 qM 8 99,
 qM 9 100])
 .ret)))
noncomputable def oB:CM prog 73 4 [(0,[2,3,4,5]),(1,[3,4,5,20]),(2,[3,4,5,20,21]),(3,[3,4,5,20,21]),(4,[8,9]),(5,[3,4,5,20,27]),(6,[10,11]),(7,[8,9]),(8,[3,5,20,40]),(9,[8,9]),(10,[3,5,20,51]),(11,[12,13]),(12,[8,9]),(13,[3,5,20,61]),(14,[14,15]),(15,[8,9]),(16,[3,5,20,71]),(17,[16,17]),(18,[8,9]),(19,[3,5,81]),(20,[18,19]),(21,[8,9]),(22,[8,9])]:=.mk (m:=m73) Go.Proofs.Tryz.func73 (by kernel_rfl)
def m75:MC :=
 (.seq
 (rF [0,3] [oX 3 (.box (.t 1)),
 oQ 4 (.mov (.k (.d (.str [])))),
 qB 5 false])
 (.seq
 (.seq
 (rF [0,3,15] [qM 8 0,
 oX 9 (.call 67 [(.t 8),(kI 0),(kI 59)]),
 qU 10 9,
 qM 11 10,
 oG 12 11 false (.ld (some 2) (.t 3)),
 oH 13 11 false (.call 36 [(.t 12)]),
 oG 14 11 false (.un .not (.t 13)),
 qO 15 11 14])
 (cS 15
 (.seq
 (rF [4,5] [oQ 4 (.mov (.k (.d (.str [])))),
 qB 5 false])
 .ret)))
 (.seq
 (.reg true [6,7] [qM 17 0,
 oQ 18 (.callP 106 [(.t 17)]),
 oQ 19 (.bin .add (.t 18) (.k (.d (.str [32])))),
 qF 20 0 0 3,
 qL 21 20,
 qT 22 .add 19 21,
 oQ 23 (.bin .add (.t 22) (.k (.d (.str [64])))),
 qF 24 1 1 3,
 qL 25 24,
 qT 26 .add 23 25,
 oQ 27 (.callP 116 [(.t 26)]),
 qM 16 27,
 qE 28 16 0,
 qE 29 16 1,
 qM 6 28,
 qM 7 29])
 (.seq
 (rF [4,5] [qM 30 6,
 oQ 31 (.bin .add (.t 30) (.k (.d (.str [10])))),
 qM 32 7,
 qM 4 31,
 qM 5 32])
 .ret))))
noncomputable def aU8:CM prog 75 2 [(0,[0,3]),(1,[0,3,15]),(2,[4,5]),(3,[6,7]),(4,[4,5])]:=.mk (m:=m75) Go.Proofs.Tryz.func75 (by kernel_rfl)
def m79:MC :=
 (.seq
 (rF [0] [qB 2 false])
 (.seq
 (rF [2] [qM 3 0,
 oX 4 (.call 85 [(.t 3),(kI 0),(kI 20000)]),
 qM 2 4])
 .ret))
noncomputable def aVp:CM prog 79 1 [(0,[0]),(1,[2])]:=.mk (m:=m79) Go.Proofs.Tryz.func79 (by kernel_rfl)
def m80:MC :=
 (.seq
 (rF [0,1,4] [oX 4 (.alloc (.st (.cons (.str []) (.cons (.str []) .nil)))),
 qB 5 false])
 (.seq
 (rF [0,1,4,6] [qM 11 1,
 qC 12 89 [11],
 oQ 13 (.bin .add (.t 12) (.k (.d (.str [32])))),
 qM 6 13])
 (.seq
 (rF [0,1,4,6,7] [qM 14 0,
 oX 15 (.call 44 [(.t 14),(.k (.d (.int .u8 35)))]),
 oQ 16 (.ia 1 (.t 15) (kI 0)),
 qL 17 16,
 qM 7 17])
 (.seq
 (.seq
 (rF [0,1,4,6,7,30] [qM 18 7,
 qN 19 true 18,
 qM 20 6,
 qN 21 true 20,
 qT 22 .lss 19 21,
 qM 23 22,
 gM 24 23 false 7,
 gM 25 23 false 6,
 oG 26 23 false (.len true (.t 25)),
 oG 27 23 false (.sls (.t 24) none (some (.t 26))),
 gM 28 23 false 6,
 oG 29 23 false (.bin .neq (.t 27) (.t 28)),
 qO 30 23 29])
 (cS 30
 (.seq
 (rF [4,5] [oX 31 (.bld (.cons (.str []) (.cons (.str []) .nil)) []),
 qS 2 4 31,
 qB 5 false])
 .ret)))
 (.seq
 (rF [0,1,4,8] [qM 32 7,
 qM 33 6,
 qN 34 true 33,
 oQ 35 (.sls (.t 32) (some (.t 34)) none),
 qM 8 35])
 (.seq
 (rF [0,1,4,8,9] [qM 36 8,
 oX 37 (.call 44 [(.t 36),(.k (.d (.int .u8 64)))]),
 oQ 38 (.ia 1 (.t 37) (kI 0)),
 qL 39 38,
 qM 9 39])
 (.seq
 (.seq
 (rF [0,1,4,8,9,44] [qM 40 9,
 qN 41 true 40,
 qM 42 8,
 qN 43 true 42,
 qT 44 .eql 41 43])
 (cS 44
 (.seq
 (rF [4,5] [oX 45 (.bld (.cons (.str []) (.cons (.str []) .nil)) []),
 qS 2 4 45,
 qB 5 false])
 .ret)))
 (.seq
 (rF [0,1,4,10] [qM 46 9,
 qM 47 8,
 qM 48 9,
 qN 49 true 48,
 qJ 50 .add 49 1,
 oQ 51 (.sls (.t 47) (some (.t 50)) none),
 oX 52 (.bld (.cons (.str []) (.cons (.str []) .nil)) [(0,(.t 46)),(1,(.t 51))]),
 oX 10 (.alloc (.st (.cons (.str []) (.cons (.str []) .nil)))),
 qS 2 10 52])
 (.seq
 (.any [11,12] [4,5] (.q 0 (oQ 53 (.ld (some 2) (.t 10))) (.e 1 (oQ 54 (.ld (some 2) (.t 10))) (.e 2 (qC 55 30 [54]) (.q 3 (qM 56 55) (.q 4 (gM 57 56 true 1) (.q 7 (gM 60 56 true 0) (.q 8 (oG 61 56 true (.bin .add (.t 60) (.k (.d (.str [10]))))) (.e 5 (oG 58 56 true (.ld (some 2) (.t 10))) (.e 6 (oH 59 56 true (.call 61 [(.t 57),(.t 58)])) (.q 9 (oG 62 56 true (.bin .eql (.t 59) (.t 61))) (.q 10 (qA 63 56 62) (.e 11 (qS 2 4 53) (.e 12 (qM 5 63) .done))))))))))))))
 .ret)))))))))
noncomputable def aDf:CM prog 80 2 [(0,[0,1,4]),(1,[0,1,4,6]),(2,[0,1,4,6,7]),(3,[0,1,4,6,7,30]),(4,[4,5]),(5,[0,1,4,8]),(6,[0,1,4,8,9]),(7,[0,1,4,8,9,44]),(8,[4,5]),(9,[0,1,4,10]),(10,[4,5]),(1000010,[2,11,12,1,0,2,1,2,2,1,3,1,4,1,7,1,8,2,5,2,6,1,9,1,10,2,11,2,12,0])]:=.mk (m:=m80) Go.Proofs.Tryz.func80 (by kernel_rfl)
def m81:MC :=
 (.seq
 (rF [0] [qB 2 false])
 (.seq
 (rF [2] [qM 3 0,
 oX 4 (.call 67 [(.t 3),(kI 0),(kI 20000)]),
 qM 2 4])
 .ret))
noncomputable def aTC:CM prog 81 1 [(0,[0]),(1,[2])]:=.mk (m:=m81) Go.Proofs.Tryz.func81 (by kernel_rfl)
def m82:MC :=
 (.seq
 (rF [0] [oQ 2 (.mov (.k .nil)),
 qI 3 0])
 (.seq
 (rF [0,4] [oQ 4 (.mov (.k .nil))])
 (.seq
 (rF [0,4,5] [qI 5 0])
 (.seq
 (.block 0
 (.loop
 (.seq
 (.seq
 (rF [0,4,5,22] [qM 20 4,
 qN 21 false 20,
 qJ 22 .lss 21 60])
 (cE 22 0))
 (.block 1
 (.seq
 (rF [0,4,5,6,8] [qM 24 0,
 qM 25 5,
 oQ 26 (.sls (.t 24) (some (.t 25)) none),
 oX 27 (.call 120 [(.t 26),(.k (.d (.str [10])))]),
 qM 23 27,
 qE 28 23 0,
 qE 29 23 1,
 qE 30 23 2,
 qM 6 28,
 qM 7 29,
 qM 8 30])
 (.seq
 (.seq
 (rF [0,4,5,6,32] [qM 31 8,
 qU 32 31])
 (cS 32
 (.exit 0)))
 (.seq
 (rF [0,4,5,6,9] [qM 34 6,
 qC 35 121 [34],
 qM 33 35,
 qE 36 33 0,
 qE 37 33 1,
 qM 9 36,
 qM 10 37])
 (.seq
 (rF [0,4,5,6,12] [qM 39 9,
 oX 40 (.call 120 [(.t 39),(.k (.d (.str [32])))]),
 qM 38 40,
 qE 41 38 0,
 qE 42 38 1,
 qE 43 38 2,
 qM 11 41,
 qM 12 42,
 qM 13 43])
 (.seq
 (rF [0,4,5,6,14,15] [qM 45 12,
 oX 46 (.call 120 [(.t 45),(.k (.d (.str [64])))]),
 qM 44 46,
 qE 47 44 0,
 qE 48 44 1,
 qE 49 44 2,
 qM 14 47,
 qM 15 48,
 qM 16 49])
 (.seq
 (rF [0,4,5,6,17] [qM 50 14,
 qM 51 15,
 oX 52 (.bld (.cons (.str []) (.cons (.str []) .nil)) [(0,(.t 50)),(1,(.t 51))]),
 oX 17 (.alloc (.st (.cons (.str []) (.cons (.str []) .nil)))),
 qS 2 17 52])
 (.seq
 (.seq
 (rF [0,4,5,6,17,18,19] [qM 54 4,
 qN 55 false 54,
 oQ 56 (.ld (some 2) (.t 17)),
 qC 57 75 [55,56],
 qM 53 57,
 qE 58 53 0,
 qE 59 53 1,
 qM 18 58,
 qM 19 59])
 (.seq
 (rF [0,4,5,6,17,67] [qM 60 19,
 qU 61 60,
 qM 62 61,
 gM 63 62 false 18,
 gM 64 62 false 6,
 oG 65 62 false (.bin .add (.t 64) (.k (.d (.str [10])))),
 oG 66 62 false (.bin .neq (.t 63) (.t 65)),
 qO 67 62 66])
 (cS 67
 (.exit 0))))
 (.seq
 (rF [0,4,5,6] [qM 68 4,
 oQ 69 (.ld (some 2) (.t 17)),
 oX 70 (.bs 2 1 (.st (.cons (.str []) (.cons (.str []) .nil))) [(0,(.t 69))]),
 oX 71 (.app 2 32 (.t 68) (.t 70)),
 qM 4 71])
 (rF [0,4,5] [qM 72 5,
 qM 73 6,
 qN 74 true 73,
 qJ 75 .add 74 1,
 qT 76 .add 72 75,
 qM 5 76])))))))))))))
 (.seq
 (rF [2,3] [qM 77 4,
 qM 78 5,
 qM 2 77,
 qM 3 78])
 .ret)))))
noncomputable def aVX:CM prog 82 1 [(0,[0]),(1,[0,4]),(2,[0,4,5]),(3,[0,4,5,22]),(4,[0,4,5,6,8]),(5,[0,4,5,6,32]),(6,[0,4,5,6,9]),(7,[0,4,5,6,12]),(8,[0,4,5,6,14,15]),(9,[0,4,5,6,17]),(10,[0,4,5,6,17,18,19]),(11,[0,4,5,6,17,67]),(12,[0,4,5,6]),(13,[0,4,5]),(14,[2,3])]:=.mk (m:=m82) Go.Proofs.Tryz.func82 (by kernel_rfl)
def m84:MC :=
 (.seq
 (rF [0] [oQ 2 (.mov (.k .nil))])
 (.seq
 (rF [2] [oX 3 (.bs 1 0 (.int .i64 0) []),
 qM 4 0,
 oX 5 (.app 1 8 (.t 3) (.t 4)),
 qM 2 5])
 .ret))
noncomputable def aTR:CM prog 84 1 [(0,[0]),(1,[2])]:=.mk (m:=m84) Go.Proofs.Tryz.func84 (by kernel_rfl)
def m85:MC :=
 (.seq
 (rF [0,1,2] [qB 6 false])
 (.seq
 (rF [6] [qM 7 0,
 qM 8 1,
 qT 9 .geq 7 8,
 qM 10 9,
 gM 11 10 true 0,
 gM 12 10 true 2,
 oG 13 10 true (.bin .leq (.t 11) (.t 12)),
 qA 14 10 13,
 qM 6 14])
 .ret))
noncomputable def aUE:CM prog 85 3 [(0,[0,1,2]),(1,[6])]:=.mk (m:=m85) Go.Proofs.Tryz.func85 (by kernel_rfl)
def m86:MC :=
 (.seq
 (rF [0] [qB 2 false])
 (.seq
 (.seq
 (rF [0,3] [qI 3 0])
 (.block 0
 (.loop
 (.seq
 (.seq
 (rF [0,3,7] [qM 4 3,
 qM 5 0,
 qN 6 false 5,
 qT 7 .lss 4 6])
 (cE 7 0))
 (.seq
 (.block 1
 (.seq
 (rF [0,3,15] [qM 10 0,
 qM 11 3,
 qX 12 1 10 11,
 qL 13 12,
 qC 14 123 [13],
 qU 15 14])
 (cS 15
 (.seq
 (rF [2] [qB 2 false])
 .ret))))
 (rF [0,3] [qM 8 3,
 qJ 9 .add 8 1,
 qM 3 9]))))))
 (.seq
 (rF [2] [qM 16 0,
 qN 17 false 16,
 oX 18 (.call 85 [(.t 17),(kI 1),(kI 8)]),
 qM 2 18])
 .ret)))
noncomputable def aVB:CM prog 86 1 [(0,[0]),(1,[0,3]),(2,[0,3,7]),(3,[0,3]),(4,[0,3,15]),(5,[2]),(6,[2])]:=.mk (m:=m86) Go.Proofs.Tryz.func86 (by kernel_rfl)
def m87:MC :=
 (.seq
 (rF [1] [oX 1 (.box (.t 0)),
 qB 2 false])
 (.seq
 (rF [2] [qF 3 0 0 1,
 qL 4 3,
 oX 5 (.call 85 [(.t 4),(kI 1),(kI 999)]),
 qM 6 5,
 gF 7 6 true 1 1 1,
 gL 8 6 true 7,
 oH 9 6 true (.call 85 [(.t 8),(kI 1),(kI 3)]),
 qA 10 6 9,
 qM 11 10,
 gF 12 11 true 2 2 1,
 gL 13 11 true 12,
 oH 14 11 true (.call 79 [(.t 13)]),
 qA 15 11 14,
 qM 16 15,
 gF 17 16 true 3 3 1,
 gL 18 16 true 17,
 oG 19 16 true (.len false (.t 18)),
 oG 20 16 true (.bin .leq (.t 19) (kI 5)),
 qA 21 16 20,
 qM 22 21,
 gF 23 22 true 3 3 1,
 gL 24 22 true 23,
 oH 25 22 true (.call 124 [(.t 24),(kI 1),(kI 9)]),
 qA 26 22 25,
 qM 2 26])
 .ret))
noncomputable def aT2:CM prog 87 1 [(0,[1]),(1,[2])]:=.mk (m:=m87) Go.Proofs.Tryz.func87 (by kernel_rfl)
def m88:MC :=
 (.seq
 (rF [0] [qI 2 0,
 qB 3 false])
 (.seq
 (rF [0,4] [qM 7 0,
 qM 4 7])
 (.seq
 (.seq
 (rF [0,4,15] [qM 8 4,
 qN 9 true 8,
 qJ 10 .gtr 9 1,
 qM 11 10,
 gM 12 11 true 4,
 oG 13 11 true (.ix (.t 12) (kI 0)),
 oG 14 11 true (.bin .eql (.t 13) (.k (.d (.int .u8 45)))),
 qA 15 11 14])
 (cS 15
 (rF [0,4] [qM 16 4,
 oQ 17 (.sls (.t 16) (some (kI 1)) none),
 qM 4 17])))
 (.seq
 (.seq
 (rF [0,4,21] [qM 18 4,
 qN 19 true 18,
 oX 20 (.call 85 [(.t 19),(kI 1),(kI 6)]),
 qU 21 20])
 (cS 21
 (.seq
 (rF [2,3] [qI 2 0,
 qB 3 false])
 .ret)))
 (.seq
 (rF [0,4,5] [qI 5 0])
 (.seq
 (.seq
 (rF [0,4,5,6] [qI 6 0])
 (.block 0
 (.loop
 (.seq
 (.seq
 (rF [0,4,5,6,25] [qM 22 6,
 qM 23 4,
 qN 24 true 23,
 qT 25 .lss 22 24])
 (cE 25 0))
 (.seq
 (.block 1
 (.seq
 (.seq
 (rF [0,4,5,6,37] [qM 28 4,
 qM 29 6,
 oQ 30 (.ix (.t 28) (.t 29)),
 oQ 31 (.bin .lss (.t 30) (.k (.d (.int .u8 48)))),
 qM 32 31,
 gM 33 32 false 4,
 gM 34 32 false 6,
 oG 35 32 false (.ix (.t 33) (.t 34)),
 oG 36 32 false (.bin .gtr (.t 35) (.k (.d (.int .u8 57)))),
 qO 37 32 36])
 (cS 37
 (.seq
 (rF [2,3] [qI 2 0,
 qB 3 false])
 .ret)))
 (rF [0,4,5,6] [qM 38 5,
 oQ 39 (.bin .mul (kI 10) (.t 38)),
 qM 40 4,
 qM 41 6,
 oQ 42 (.ix (.t 40) (.t 41)),
 oQ 43 (.bin .sub (.t 42) (.k (.d (.int .u8 48)))),
 oQ 44 (.conv .i64 (.t 43)),
 qT 45 .add 39 44,
 qM 5 45])))
 (rF [0,4,5,6] [qM 26 6,
 qJ 27 .add 26 1,
 qM 6 27]))))))
 (.seq
 (.seq
 (rF [0,5,50] [qM 46 4,
 qN 47 true 46,
 qM 48 0,
 qN 49 true 48,
 qT 50 .lss 47 49])
 (cS 50
 (rF [0,5] [qM 51 5,
 oQ 52 (.un .neg (.t 51)),
 qM 5 52])))
 (.seq
 (.seq
 (rF [5,56] [qM 53 5,
 qC 54 89 [53],
 qM 55 0,
 qT 56 .neq 54 55])
 (cS 56
 (.seq
 (rF [2,3] [qI 2 0,
 qB 3 false])
 .ret)))
 (.seq
 (rF [2,3] [qM 57 5,
 qM 2 57,
 qB 3 true])
 .ret)))))))))
noncomputable def aKT:CM prog 88 1 [(0,[0]),(1,[0,4]),(2,[0,4,15]),(3,[0,4]),(4,[0,4,21]),(5,[2,3]),(6,[0,4,5]),(7,[0,4,5,6]),(8,[0,4,5,6,25]),(9,[0,4,5,6]),(10,[0,4,5,6,37]),(11,[2,3]),(12,[0,4,5,6]),(13,[0,5,50]),(14,[0,5]),(15,[5,56]),(16,[2,3]),(17,[2,3])]:=.mk (m:=m88) Go.Proofs.Tryz.func88 (by kernel_rfl)
end Go.Pe.Tryz
