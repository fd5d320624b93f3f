/-
The compact code of the functions that the law reaches,printed by gen.py,each with the proof that the machine's code is compiled to it.
-/
import Derived.Test.YtjmobminbckhjaaGreatDoorMc1
import Derived.Test.YtjmobminbckhjaaGreatDoorProg
import Derived.KernelRfl
set_option maxRecDepth 100000
namespace Go.Pe.Tryz
open Go.Pe
def aTV:MC :=
 (.seq
 (rF [2,3] [oX 2 (.box (.t 0)),
 oX 3 (.box (.t 1)),
 qB 4 false])
 (.seq
 (rF [3,5] [qV 6 5 2,
 qF 7 1 1 3,
 qL 8 7,
 qC 9 166 [6,8],
 qM 5 9])
 (.seq
 (.seq
 (rF [3,5,11] [qF 10 0 0 3,
 qL 11 10])
 (.block 0
 (.seq
 (rF [3,5,11,12] [qJ 13 .eql 11 1,
 qM 12 13])
 (.cond (.t 12)
 (.seq
 (rF [4] [qF 14 1 1 3,
 qL 15 14,
 qJ 16 .eql 15 0,
 qM 17 16,
 gF 18 17 true 2 2 3,
 gL 19 17 true 18,
 oG 20 17 true (.bin .eql (.t 19) (kI 0)),
 qA 21 17 20,
 qM 22 21,
 gF 23 22 true 3 3 3,
 gL 24 22 true 23,
 oG 25 22 true (.bin .geq (.t 24) (kI 1)),
 qA 26 22 25,
 qM 4 26])
 .ret)
 (.seq
 (rF [3,5,11,27] [qJ 28 .eql 11 2,
 qM 27 28])
 (.cond (.t 27)
 (.seq
 (rF [4] [qF 29 1 1 3,
 qL 30 29,
 oX 31 (.call 85 [(.t 30),(kI 1),(kI 999)]),
 qM 32 31,
 gM 33 32 true 5,
 oG 34 32 true (.bin .lss (.t 33) (kI 0)),
 qA 35 32 34,
 qM 36 35,
 gF 37 36 true 2 2 3,
 gL 38 36 true 37,
 oH 39 36 true (.call 85 [(.t 38),(kI 1),(kI 3)]),
 qA 40 36 39,
 qM 41 40,
 gF 42 41 true 3 3 3,
 gL 43 41 true 42,
 oG 44 41 true (.bin .geq (.t 43) (kI 0)),
 qA 45 41 44,
 qM 4 45])
 .ret)
 (.seq
 (rF [3,5,11,46] [qJ 47 .eql 11 3,
 qM 46 47])
 (.cond (.t 46)
 (.seq
 (rF [4] [qM 48 5,
 qJ 49 .geq 48 0,
 qM 50 49,
 gF 51 50 true 2 2 3,
 gL 52 50 true 51,
 oG 53 50 true (.bin .eql (.t 52) (kI 0)),
 qA 54 50 53,
 qM 55 54,
 gF 56 55 true 3 3 3,
 gL 57 55 true 56,
 oH 58 55 true (.call 85 [(.t 57),(kI 1),(kI 9)]),
 qA 59 55 58,
 qM 4 59])
 .ret)
 (.seq
 (rF [3,5,11,60] [qJ 61 .eql 11 4,
 qM 60 61])
 (.cond (.t 60)
 (.seq
 (rF [4] [qF 62 1 1 3,
 qL 63 62,
 qJ 64 .eql 63 0,
 qM 65 64,
 gF 66 65 true 2 2 3,
 gL 67 65 true 66,
 oG 68 65 true (.bin .eql (.t 67) (kI 0)),
 qA 69 65 68,
 qM 70 69,
 gF 71 70 true 3 3 3,
 gL 72 70 true 71,
 oH 73 70 true (.call 85 [(.t 72),(kI 1),(kI 9)]),
 qA 74 70 73,
 qM 4 74])
 .ret)
 (.seq
 (rF [3,5,75] [qJ 76 .eql 11 5,
 qM 75 76])
 (cS 75
 (.seq
 (rF [4] [qM 77 5,
 qJ 78 .geq 77 0,
 qM 79 78,
 gF 80 79 true 2 2 3,
 gL 81 79 true 80,
 oG 82 79 true (.bin .eql (.t 81) (kI 0)),
 qA 83 79 82,
 qM 84 83,
 gF 85 84 true 3 3 3,
 gL 86 84 true 85,
 oG 87 84 true (.bin .geq (.t 86) (kI 1)),
 qA 88 84 87,
 qM 4 88])
 .ret)))))))))))))
 (.seq
 (rF [4] [qF 89 0 0 3,
 qL 90 89,
 qJ 91 .eql 90 6,
 qM 92 91,
 gM 93 92 true 5,
 oG 94 92 true (.bin .geq (.t 93) (kI 0)),
 qA 95 92 94,
 qM 96 95,
 gF 97 96 true 2 2 3,
 gL 98 96 true 97,
 oG 99 96 true (.bin .eql (.t 98) (kI 0)),
 qA 100 96 99,
 qM 101 100,
 gF 102 101 true 3 3 3,
 gL 103 101 true 102,
 oG 104 101 true (.bin .eql (.t 103) (kI 0)),
 qA 105 101 104,
 qM 4 105])
 .ret))))
noncomputable def aRD:CM prog 128 2 [(0,[2,3]),(1,[3,5]),(2,[3,5,11]),(3,[3,5,11,12]),(4,[4]),(5,[3,5,11,27]),(6,[4]),(7,[3,5,11,46]),(8,[4]),(9,[3,5,11,60]),(10,[4]),(11,[3,5,75]),(12,[4]),(13,[4])]:=.mk (m:=aTV) Go.Proofs.Tryz.func128 (by kernel_rfl)
def aAH:MC :=
 (.seq
 (rF [2,3,4] [oX 2 (.box (.t 0)),
 oX 3 (.box (.t 1)),
 oX 4 (.alloc (.st (.cons (.int .i64 0) (.cons (.sl true 4 .nil) (.cons (.int .i64 0) (.cons (.int .i64 0) (.cons (.sl true 1 .nil) .nil))))))),
 qB 5 false])
 (.seq
 (rF [2,3,4,6,7] [qV 9 5 2,
 qC 10 52 [9],
 oX 6 (.alloc (.st (.cons (.int .i64 0) (.cons (.sl true 4 .nil) (.cons (.int .i64 0) (.cons (.int .i64 0) (.cons (.sl true 1 .nil) .nil))))))),
 qS 5 6 10,
 qB 7 true])
 (.seq
 (rF [2,3,4,6,7,8] [qV 11 5 2,
 qF 12 1 1 3,
 qL 13 12,
 qC 14 166 [11,13],
 qM 8 14])
 (.seq
 (.seq
 (rF [2,3,4,6,7,8,16] [qF 15 0 0 3,
 qL 16 15])
 (.block 0
 (.seq
 (rF [2,3,4,6,7,8,16,23] [qJ 24 .eql 16 1,
 qM 23 24])
 (.cond (.t 23)
 (.seq
 (.seq
 (rF [2,3,4,6,7,30] [qF 25 3 3 3,
 qL 26 25,
 qF 27 0 0 2,
 qL 28 27,
 oQ 29 (.bin .sub (kI 20000) (.t 28)),
 qT 30 .gtr 26 29])
 (cS 30
 (.seq
 (rF [4,5] [qV 31 5 6,
 qS 5 4 31,
 qB 5 false])
 .ret)))
 (rF [4,6,7] [qF 32 0 0 2,
 qL 33 32,
 qF 34 3 3 3,
 qL 35 34,
 qT 36 .add 33 35,
 qF 37 0 0 6,
 qS 1 37 36]))
 (.seq
 (rF [2,3,4,6,7,8,16,38] [qJ 39 .eql 16 2,
 qM 38 39])
 (.cond (.t 38)
 (.seq
 (.seq
 (rF [2,3,4,6,7,45] [qF 40 3 3 3,
 qL 41 40,
 qF 42 0 0 2,
 qL 43 42,
 oQ 44 (.bin .sub (kI 20000) (.t 43)),
 qT 45 .gtr 41 44])
 (cS 45
 (.seq
 (rF [4,5] [qV 46 5 6,
 qS 5 4 46,
 qB 5 false])
 .ret)))
 (rF [4,6,7] [qV 47 5 2,
 oQ 48 (.ld (some 4) (.t 3)),
 qC 49 168 [47,48],
 qS 5 6 49]))
 (.seq
 (rF [2,3,4,6,7,8,16,50] [qJ 51 .eql 16 3,
 qM 50 51])
 (.cond (.t 50)
 (.seq
 (.seq
 (.reg true [3,4,6,7,8,60] [qF 52 1 1 2,
 qL 53 52,
 qM 54 8,
 qX 55 4 53 54,
 qF 56 3 3 55,
 qL 57 56,
 qF 58 3 3 3,
 qL 59 58,
 oQ 60 (.callP 126 [(.t 57),(.t 59)])])
 (cS 60
 (.seq
 (rF [4,5] [qV 61 5 6,
 qS 5 4 61,
 qB 5 false])
 .ret)))
 (.any [14] [4,6,7] (.q 0 (qF 62 1 1 6) (.q 1 (qL 63 62) (.q 2 (qM 64 8) (.q 3 (qF 65 1 1 6) (.q 4 (qL 66 65) (.q 5 (qM 67 8) (.q 6 (qX 68 4 66 67) (.q 7 (qF 69 3 3 68) (.q 8 (qL 70 69) (.q 9 (qF 71 3 3 3) (.q 10 (qL 72 71) (.e 11 (qC 73 169 [70,72]) (.q 12 (qX 74 4 63 64) (.q 13 (qF 75 3 3 74) (.e 14 (qS 1 75 73) .done)))))))))))))))))
 (.seq
 (rF [2,3,4,6,7,8,16,76] [qJ 77 .eql 16 4,
 qM 76 77])
 (.cond (.t 76)
 (rF [4,6,7] [qV 79 5 2,
 qF 80 3 3 3,
 qL 81 80,
 qC 82 170 [79,81],
 qM 78 82,
 qE 83 78 0,
 qE 84 78 1,
 qS 5 6 83,
 qM 7 84])
 (.seq
 (rF [2,3,4,6,7,8,85] [qJ 86 .eql 16 5,
 qM 85 86])
 (.cond (.t 85)
 (.seq
 (.seq
 (.reg true [2,3,4,6,7,8,96] [qF 87 3 3 3,
 qL 88 87,
 qF 89 1 1 2,
 qL 90 89,
 qM 91 8,
 qX 92 4 90 91,
 qF 93 2 2 92,
 qL 94 93,
 oQ 95 (.bin .sub (kI 20000) (.t 94)),
 qT 96 .gtr 88 95])
 (cS 96
 (.seq
 (rF [4,5] [qV 97 5 6,
 qS 5 4 97,
 qB 5 false])
 .ret)))
 (.any [14] [4,6,7] (.q 0 (qF 98 1 1 6) (.q 1 (qL 99 98) (.q 2 (qM 100 8) (.q 3 (qF 101 1 1 2) (.q 4 (qL 102 101) (.q 5 (qM 103 8) (.q 6 (qX 104 4 102 103) (.q 7 (qF 105 2 2 104) (.q 8 (qL 106 105) (.q 9 (qF 107 3 3 3) (.q 10 (qL 108 107) (.q 11 (qT 109 .add 106 108) (.q 12 (qX 110 4 99 100) (.q 13 (qF 111 2 2 110) (.e 14 (qS 1 111 109) .done)))))))))))))))))
 (rF [4,6,7] [qV 18 5 2,
 qM 19 8,
 qC 20 171 [18,19],
 qM 17 20,
 qE 21 17 0,
 qE 22 17 1,
 qS 5 6 21,
 qM 7 22])))))))))))))
 (.seq
 (.any [6,7] [4,5] (.q 1 (qM 113 7) (.q 2 (qM 114 113) (.br (.e 0 (qV 112 5 6) (.e 3 (gV 115 114 true 5 6) (.e 4 (oH 116 114 true (.call 53 [(.t 115)])) (.q 5 (qA 117 114 116) (.e 6 (qS 5 4 112) (.e 7 (qM 5 117) .done))))))
 (.e 3 (gV 115 114 true 5 6) (.br (.e 0 (qV 112 5 6) (.e 4 (oH 116 114 true (.call 53 [(.t 115)])) (.q 5 (qA 117 114 116) (.e 6 (qS 5 4 112) (.e 7 (qM 5 117) .done)))))
 (.e 4 (oH 116 114 true (.call 53 [(.t 115)])) (.q 5 (qA 117 114 116) (.e 0 (qV 112 5 6) (.e 6 (qS 5 4 112) (.e 7 (qM 5 117) .done)))))))))))
 .ret)))))
noncomputable def kL:CM prog 129 2 [(0,[2,3,4]),(1,[2,3,4,6,7]),(2,[2,3,4,6,7,8]),(3,[2,3,4,6,7,8,16]),(4,[4,6,7]),(5,[2,3,4,6,7,8,16,23]),(6,[2,3,4,6,7,30]),(7,[4,5]),(8,[4,6,7]),(9,[2,3,4,6,7,8,16,38]),(10,[2,3,4,6,7,45]),(11,[4,5]),(12,[4,6,7]),(13,[2,3,4,6,7,8,16,50]),(14,[3,4,6,7,8,60]),(15,[4,5]),(16,[4,6,7]),(17,[2,3,4,6,7,8,16,76]),(18,[4,6,7]),(19,[2,3,4,6,7,8,85]),(20,[2,3,4,6,7,8,96]),(21,[4,5]),(22,[4,6,7]),(23,[4,5]),(1000016,[1,14,1,0,1,1,1,2,1,3,1,4,1,5,1,6,1,7,1,8,1,9,1,10,2,11,1,12,1,13,2,14,0]),(1000022,[1,14,1,0,1,1,1,2,1,3,1,4,1,5,1,6,1,7,1,8,1,9,1,10,1,11,1,12,1,13,2,14,0]),(1000023,[2,6,7,1,1,1,2,3,2,0,2,3,2,4,1,5,2,6,2,7,0,2,3,3,2,0,2,4,1,5,2,6,2,7,0,2,4,1,5,2,0,2,6,2,7,0])]:=.mk (m:=aAH) Go.Proofs.Tryz.func129 (by kernel_rfl)
def aTK:MC :=
 (.seq
 (rF [0] [qI 2 0])
 (.seq
 (rF [0,3] [qI 3 7])
 (.seq
 (.seq
 (rF [0,3,4] [qI 4 0])
 (.block 0
 (.loop
 (.seq
 (.seq
 (rF [0,3,4,8] [qM 5 4,
 qM 6 0,
 qN 7 true 6,
 qT 8 .lss 5 7])
 (cE 8 0))
 (.seq
 (.block 1
 (rF [0,3,4] [qM 11 3,
 oQ 12 (.bin .mul (kI 41) (.t 11)),
 qM 13 0,
 qM 14 4,
 oQ 15 (.ix (.t 13) (.t 14)),
 oQ 16 (.conv .i64 (.t 15)),
 qT 17 .add 12 16,
 qJ 18 .add 17 1,
 qJ 19 .rem 18 999979,
 qM 3 19]))
 (rF [0,3,4] [qM 9 4,
 qJ 10 .add 9 1,
 qM 4 10]))))))
 (.seq
 (rF [2] [qM 20 3,
 qM 2 20])
 .ret))))
noncomputable def aQU:CM prog 130 1 [(0,[0]),(1,[0,3]),(2,[0,3,4]),(3,[0,3,4,8]),(4,[0,3,4]),(5,[0,3,4]),(6,[2])]:=.mk (m:=aTK) Go.Proofs.Tryz.func130 (by kernel_rfl)
def aTI:MC :=
 (.seq
 (rF [0,1] [qB 4 false])
 (.seq
 (rF [4] [qM 5 0,
 qM 6 1,
 qC 7 172 [5,6],
 qJ 8 .geq 7 0,
 qM 4 8])
 .ret))
noncomputable def aRn:CM prog 132 2 [(0,[0,1]),(1,[4])]:=.mk (m:=aTI) Go.Proofs.Tryz.func132 (by kernel_rfl)
def aTE:MC :=
 (.seq
 (rF [0] [qB 2 false])
 (.seq
 (rF [2] [qM 3 0,
 qC 4 134 [3],
 qU 5 4,
 qM 2 5])
 .ret))
noncomputable def aQv:CM prog 133 1 [(0,[0]),(1,[2])]:=.mk (m:=aTE) Go.Proofs.Tryz.func133 (by kernel_rfl)
theorem aU4:fX prog.P 133=true:=by kernel_rfl
def aSu:MC :=
 (.seq
 (rF [0] [qB 2 false])
 (.seq
 (rF [2] [qM 3 0,
 qN 4 true 3,
 oX 5 (.call 67 [(.t 4),(kI 1),(kI 40)]),
 qM 6 5,
 gM 7 6 true 0,
 oH 8 6 true (.call 173 [(.t 7),(.k (.d (.str [97,98,99,100,101,102,103,104,105,106,107,108,109,110,111,112,113,114,115,116,117,118,119,120,121,122,48,49,50,51,52,53,54,55,56,57,32,45])))]),
 oG 9 6 true (.bin .eql (.t 8) (.k (.d (.str [])))),
 qA 10 6 9,
 qM 2 10])
 .ret))
noncomputable def aIN:CM prog 134 1 [(0,[0]),(1,[2])]:=.mk (m:=aSu) Go.Proofs.Tryz.func134 (by kernel_rfl)
def aT4:MC :=
 (.seq
 (rF [0] [qB 2 false])
 (.seq
 (rF [2] [qM 3 0,
 oX 4 (.call 67 [(.t 3),(kI 1),(kI 999)]),
 qM 2 4])
 .ret))
noncomputable def aRH:CM prog 135 1 [(0,[0]),(1,[2])]:=.mk (m:=aT4) Go.Proofs.Tryz.func135 (by kernel_rfl)
def aUy:MC :=
 (.seq
 (rF [0] [qB 2 false])
 (.seq
 (rF [2] [qM 3 0,
 oX 4 (.call 67 [(.t 3),(kI 1),(kI 3)]),
 qM 2 4])
 .ret))
noncomputable def aRa:CM prog 136 1 [(0,[0]),(1,[2])]:=.mk (m:=aUy) Go.Proofs.Tryz.func136 (by kernel_rfl)
def aTL:MC :=
 (.seq
 (rF [0] [qB 2 false])
 (.seq
 (.seq
 (rF [0,3] [qI 3 1])
 (.block 0
 (.loop
 (.seq
 (.seq
 (rF [0,3,7] [qM 4 3,
 qM 5 0,
 qN 6 false 5,
 qT 7 .lss 4 6])
 (cE 7 0))
 (.seq
 (.block 1
 (.seq
 (.reg true [0,3,19] [qM 10 0,
 qM 11 3,
 qJ 12 .sub 11 1,
 qX 13 1 10 12,
 qL 14 13,
 qM 15 0,
 qM 16 3,
 qX 17 1 15 16,
 qL 18 17,
 qT 19 .geq 14 18])
 (cS 19
 (.seq
 (rF [2] [qB 2 false])
 .ret))))
 (rF [0,3] [qM 8 3,
 qJ 9 .add 8 1,
 qM 3 9]))))))
 (.seq
 (rF [2] [qB 2 true])
 .ret)))
noncomputable def aQs:CM prog 137 1 [(0,[0]),(1,[0,3]),(2,[0,3,7]),(3,[0,3]),(4,[0,3,19]),(5,[2]),(6,[2])]:=.mk (m:=aTL) Go.Proofs.Tryz.func137 (by kernel_rfl)
def aTT:MC :=
 (.seq
 (rF [0,1] [qB 4 false])
 (.seq
 (rF [4] [qM 5 0,
 qM 6 1,
 qC 7 174 [5,6],
 qJ 8 .geq 7 0,
 qM 4 8])
 .ret))
noncomputable def aQS:CM prog 138 2 [(0,[0,1]),(1,[4])]:=.mk (m:=aTT) Go.Proofs.Tryz.func138 (by kernel_rfl)
def aUN:MC :=
 (.seq
 (rF [0] [qB 2 false])
 (.seq
 (rF [2] [qM 3 0,
 qC 4 140 [3],
 qU 5 4,
 qM 2 5])
 .ret))
noncomputable def aRo:CM prog 139 1 [(0,[0]),(1,[2])]:=.mk (m:=aUN) Go.Proofs.Tryz.func139 (by kernel_rfl)
theorem aUJ:fX prog.P 139=true:=by kernel_rfl
def aSN:MC :=
 (.seq
 (rF [0] [qB 2 false])
 (.seq
 (rF [2] [qM 3 0,
 oX 4 (.call 67 [(.t 3),(kI 1),(kI 9)]),
 qM 2 4])
 .ret))
noncomputable def aIO:CM prog 140 1 [(0,[0]),(1,[2])]:=.mk (m:=aSN) Go.Proofs.Tryz.func140 (by kernel_rfl)
def aUF:MC :=
 (.seq
 (rF [2,3] [oX 2 (.box (.t 0)),
 oX 3 (.box (.t 1)),
 qI 4 0])
 (.seq
 (rF [4] [qF 5 1 1 2,
 qL 6 5,
 oQ 7 (.clos 186 [(.t 3)]),
 qC 8 185 [6,7],
 qM 4 8])
 .ret))
noncomputable def aRi:CM prog 145 2 [(0,[2,3]),(1,[4])]:=.mk (m:=aUF) Go.Proofs.Tryz.func145 (by kernel_rfl)
def aU2:MC :=
 (.seq
 (rF [0,1] [qB 4 false])
 (.seq
 (rF [0,1,5] [qB 5 false])
 (.seq
 (.seq
 (rF [0,1,5,12,13] [qM 8 0,
 oQ 9 (.nck (.t 8)),
 qF 10 1 1 9,
 qL 11 10,
 qN 12 false 11,
 qI 13 0])
 (.block 0
 (.loop
 (.seq
 (rF [0,1,5,12,13,14] [qT 14 .lss 13 12])
 (.seq
 (cE 14 0)
 (.seq
 (.block 1
 (.seq
 (rF [0,1,5,6,12,13] [qM 15 13,
 qM 6 15])
 (.seq
 (rF [0,1,5,6,7,12,13] [qM 16 0,
 oQ 17 (.nck (.t 16)),
 qF 18 1 1 17,
 qL 19 18,
 qM 20 6,
 qX 21 4 19 20,
 qF 22 3 3 21,
 qL 23 22,
 qM 24 1,
 qC 25 189 [23,24],
 qM 7 25])
 (.seq
 (rF [0,1,5,6,7,12,13,27] [qM 26 7,
 qJ 27 .geq 26 0])
 (cS 27
 (.seq
 (.any [19] [0,1,12,13] (.q 0 (qM 28 0) (.q 1 (oQ 29 (.nck (.t 28))) (.q 2 (qF 30 1 1 29) (.q 3 (qL 31 30) (.q 4 (qM 32 6) (.q 5 (qM 33 0) (.q 6 (oQ 34 (.nck (.t 33))) (.q 7 (qF 35 1 1 34) (.q 8 (qL 36 35) (.q 9 (qM 37 6) (.q 10 (qX 38 4 36 37) (.q 11 (qF 39 3 3 38) (.q 12 (qL 40 39) (.q 13 (qM 41 7) (.q 14 (qM 42 7) (.q 15 (qJ 43 .add 42 1) (.e 16 (qC 44 190 [40,41,43]) (.q 17 (qX 45 4 31 32) (.q 18 (qF 46 3 3 45) (.e 19 (qS 1 46 44) .done)))))))))))))))))))))
 (rF [0,1,5,12,13] [qB 5 true])))))))
 (rF [0,1,5,12,13] [qJ 47 .add 13 1,
 qM 13 47])))))))
 (.seq
 (rF [0,4] [qM 48 5,
 qM 4 48])
 .ret))))
noncomputable def aQ3:CM prog 147 2 [(0,[0,1]),(1,[0,1,5]),(2,[0,1,5,12,13]),(3,[0,1,5,12,13,14]),(4,[0,1,5,6,12,13]),(5,[0,1,5,6,7,12,13]),(6,[0,1,5,6,7,12,13,27]),(7,[0,1,12,13]),(8,[0,1,5,12,13]),(9,[0,1,5,12,13]),(10,[0,4]),(1000007,[1,19,1,0,1,1,1,2,1,3,1,4,1,5,1,6,1,7,1,8,1,9,1,10,1,11,1,12,1,13,1,14,1,15,2,16,1,17,1,18,2,19,0])]:=.mk (m:=aU2) Go.Proofs.Tryz.func147 (by kernel_rfl)
def aMh:MC :=
 (.seq
 (rF [0,1,5] [oX 5 (.box (.t 2)),
 qB 6 false])
 (.seq
 (rF [0,1,5,7] [qM 8 0,
 oQ 9 (.nck (.t 8)),
 qF 10 1 1 9,
 qL 11 10,
 qM 12 1,
 qX 13 4 11 12,
 qM 7 13])
 (.seq
 (.seq
 (rF [0,1,5,7,15] [qF 14 0 0 5,
 qL 15 14])
 (.block 0
 (.seq
 (rF [0,1,5,7,15,16] [qJ 17 .eql 15 3,
 qM 16 17])
 (.cond (.t 16)
 (.seq
 (.seq
 (.reg true [0,5,7,24] [qM 18 7,
 oQ 19 (.nck (.t 18)),
 qF 20 3 3 19,
 qL 21 20,
 qF 22 3 3 5,
 qL 23 22,
 oQ 24 (.callP 151 [(.t 21),(.t 23)])])
 (cS 24
 (.seq
 (rF [0,6] [qB 6 false])
 .ret)))
 (.seq
 (.any [11] [0,7] (.q 0 (qM 25 7) (.q 1 (qM 26 7) (.q 2 (oQ 27 (.nck (.t 26))) (.q 3 (qF 28 3 3 27) (.q 4 (qL 29 28) (.q 5 (qF 30 3 3 5) (.q 6 (qL 31 30) (.e 7 (oX 32 (.bs 1 1 (.int .i64 0) [(0,(.t 31))])) (.e 8 (oX 33 (.app 1 8 (.t 29) (.t 32))) (.q 9 (oQ 34 (.nck (.t 25))) (.q 10 (qF 35 3 3 34) (.e 11 (qS 1 35 33) .done)))))))))))))
 (.seq
 (rF [0] [qM 36 7,
 oQ 37 (.nck (.t 36)),
 qF 38 3 3 37,
 qL 39 38,
 qC 40 191 [39]])
 (.seq
 (rF [0,6] [qB 6 true])
 .ret))))
 (.seq
 (rF [0,1,5,7,15,41] [qJ 42 .eql 15 5,
 qM 41 42])
 (.cond (.t 41)
 (.seq
 (.any [9] [0,5] (.q 0 (qM 43 7) (.q 1 (oQ 44 (.nck (.t 43))) (.q 2 (qF 45 2 2 44) (.q 3 (qL 46 45) (.q 4 (qF 47 3 3 5) (.q 5 (qL 48 47) (.q 6 (qT 49 .add 46 48) (.q 7 (oQ 50 (.nck (.t 43))) (.q 8 (qF 51 2 2 50) (.e 9 (qS 1 51 49) .done)))))))))))
 (.seq
 (rF [0,6] [qF 52 3 3 5,
 qL 53 52,
 qJ 54 .geq 53 1,
 qM 6 54])
 .ret))
 (.seq
 (rF [0,1,5,55] [qJ 56 .eql 15 6,
 qM 55 56])
 (cS 55
 (.seq
 (rF [0,6] [qF 57 3 3 5,
 qL 58 57,
 qJ 59 .eql 58 0,
 qM 60 59,
 gM 61 60 true 0,
 gM 62 60 true 1,
 oH 63 60 true (.call 192 [(.t 61),(.t 62)]),
 qA 64 60 63,
 qM 6 64])
 .ret)))))))))
 (.seq
 (rF [0,6] [qB 6 false])
 .ret))))
noncomputable def aAC:CM prog 148 3 [(0,[0,1,5]),(1,[0,1,5,7]),(2,[0,1,5,7,15]),(3,[0,1,5,7,15,16]),(4,[0,5,7,24]),(5,[0,6]),(6,[0,7]),(7,[0]),(8,[0,6]),(9,[0,1,5,7,15,41]),(10,[0,5]),(11,[0,6]),(12,[0,1,5,55]),(13,[0,6]),(14,[0,6]),(1000006,[1,11,1,0,1,1,1,2,1,3,1,4,1,5,1,6,2,7,2,8,1,9,1,10,2,11,0]),(1000010,[1,9,1,0,1,1,1,2,1,3,1,4,1,5,1,6,1,7,1,8,2,9,0])]:=.mk (m:=aMh) Go.Proofs.Tryz.func148 (by kernel_rfl)
def aVd:MC :=
 (.seq
 (rF [1,2] [oX 2 (.box (.t 0)),
 oQ 4 (.mov (.k .nil))])
 (.seq
 (rF [1,2,5] [oQ 5 (.mov (.k .nil))])
 (.seq
 (.seq
 (rF [1,5,9,10,11] [qF 8 1 1 2,
 qL 9 8,
 qN 10 false 9,
 qI 11 0])
 (.block 0
 (.loop
 (.seq
 (rF [1,5,9,10,11,12] [qT 12 .lss 11 10])
 (.seq
 (cE 12 0)
 (.seq
 (.block 1
 (.seq
 (rF [1,5,7,9,10,11] [qX 13 4 9 11,
 oQ 14 (.ld (some 4) (.t 13)),
 oX 7 (.alloc (.st (.cons (.int .i64 0) (.cons (.int .i64 0) (.cons (.int .i64 0) (.cons (.sl true 1 .nil) .nil)))))),
 qS 4 7 14])
 (.seq
 (rF [1,5,7,9,10,11,17] [qM 15 1,
 oQ 16 (.ld (some 4) (.t 7)),
 oX 17 (.callW (.t 15) [(.t 16)])])
 (cS 17
 (rF [1,5,9,10,11] [qM 18 5,
 qF 19 0 0 7,
 qL 20 19,
 oX 21 (.bs 1 1 (.int .i64 0) [(0,(.t 20))]),
 oX 22 (.app 1 8 (.t 18) (.t 21)),
 qM 5 22])))))
 (rF [1,5,9,10,11] [qJ 23 .add 11 1,
 qM 11 23])))))))
 (.seq
 (rF [4] [qM 24 5,
 qM 4 24])
 .ret))))
noncomputable def aQ2:CM prog 149 2 [(0,[1,2]),(1,[1,2,5]),(2,[1,5,9,10,11]),(3,[1,5,9,10,11,12]),(4,[1,5,7,9,10,11]),(5,[1,5,7,9,10,11,17]),(6,[1,5,9,10,11]),(7,[1,5,9,10,11]),(8,[4])]:=.mk (m:=aVd) Go.Proofs.Tryz.func149 (by kernel_rfl)
def aUs:MC :=
 (.seq
 (rF [1,2] [oX 2 (.box (.t 0)),
 qB 3 false])
 (.seq
 (rF [3] [qF 4 3 3 2,
 qL 5 4,
 qL 6 1,
 qC 7 151 [5,6],
 qM 3 7])
 .ret))
noncomputable def aRl:CM prog 150 2 [(0,[1,2]),(1,[3])]:=.mk (m:=aUs) Go.Proofs.Tryz.func150 (by kernel_rfl)
theorem aV3:fX prog.P 150=true:=by kernel_rfl
def aTQ:MC :=
 (.seq
 (rF [0,1] [qB 4 false])
 (.seq
 (rF [4] [qM 5 0,
 qM 6 1,
 qC 7 189 [5,6],
 qJ 8 .geq 7 0,
 qM 4 8])
 .ret))
noncomputable def aQq:CM prog 151 2 [(0,[0,1]),(1,[4])]:=.mk (m:=aTQ) Go.Proofs.Tryz.func151 (by kernel_rfl)
def aUe:MC :=
 (.seq
 (rF [0,1] [oQ 4 (.mov (.k (.d (.str []))))])
 (.seq
 (rF [0,1,5] [qM 8 0,
 qN 9 false 8,
 oX 10 (.mk 1 16 (.str []) (.t 9)),
 qM 5 10])
 (.seq
 (.seq
 (rF [1,5,11,12,13] [qM 11 0,
 qN 12 false 11,
 qI 13 0])
 (.block 0
 (.loop
 (.seq
 (rF [1,5,11,12,13,14] [qT 14 .lss 13 12])
 (.seq
 (cE 14 0)
 (.seq
 (.block 1
 (.seq
 (rF [1,5,6,7,11,12,13] [qM 15 13,
 qX 16 1 11 13,
 qL 17 16,
 qM 6 15,
 qM 7 17])
 (rF [1,5,11,12,13] [qM 18 5,
 qM 19 6,
 qM 20 7,
 qC 21 106 [20],
 qX 22 1 18 19,
 qS 1 22 21])))
 (rF [1,5,11,12,13] [qJ 23 .add 13 1,
 qM 13 23])))))))
 (.seq
 (rF [4] [qM 24 5,
 qM 25 1,
 qC 26 193 [24,25],
 qM 4 26])
 .ret))))
noncomputable def aRE:CM prog 152 2 [(0,[0,1]),(1,[0,1,5]),(2,[1,5,11,12,13]),(3,[1,5,11,12,13,14]),(4,[1,5,6,7,11,12,13]),(5,[1,5,11,12,13]),(6,[1,5,11,12,13]),(7,[4])]:=.mk (m:=aUe) Go.Proofs.Tryz.func152 (by kernel_rfl)
def aT8:MC :=
 (.seq
 (rF [1,2] [oX 2 (.box (.t 0)),
 qB 3 false])
 (.seq
 (rF [3] [qF 4 2 2 2,
 qL 5 4,
 qF 6 0 0 1,
 qL 7 6,
 qT 8 .leq 5 7,
 qM 3 8])
 .ret))
noncomputable def aQW:CM prog 153 2 [(0,[1,2]),(1,[3])]:=.mk (m:=aT8) Go.Proofs.Tryz.func153 (by kernel_rfl)
theorem aVq:fX prog.P 153=true:=by kernel_rfl
def aTG:MC :=
 (.seq
 (rF [1,2] [oX 2 (.box (.t 0)),
 qB 3 false])
 (.seq
 (rF [3] [qF 4 2 2 2,
 qL 5 4,
 qF 6 0 0 1,
 qL 7 6,
 qT 8 .leq 5 7,
 qM 9 8,
 gF 10 9 true 1 1 2,
 gL 11 9 true 10,
 oG 12 9 true (.bin .eql (.t 11) (kI 3)),
 qA 13 9 12,
 qM 14 13,
 gF 15 14 true 3 3 2,
 gL 16 14 true 15,
 oG 17 14 true (.len false (.t 16)),
 oG 18 14 true (.bin .gtr (.t 17) (kI 0)),
 qA 19 14 18,
 qM 3 19])
 .ret))
noncomputable def aRv:CM prog 154 2 [(0,[1,2]),(1,[3])]:=.mk (m:=aTG) Go.Proofs.Tryz.func154 (by kernel_rfl)
theorem aTO:fX prog.P 154=true:=by kernel_rfl
def aS6:MC :=
 (.seq
 (rF [0] [qI 2 0,
 qB 3 false])
 (.seq
 (.seq
 (rF [0,7] [qM 5 0,
 qC 6 99 [5],
 qU 7 6])
 (cS 7
 (.seq
 (rF [2,3] [qI 2 0,
 qB 3 false])
 .ret)))
 (.seq
 (rF [4] [qM 8 0,
 qC 9 194 [8],
 qM 4 9])
 (.seq
 (.block 0
 (.loop
 (.seq
 (.seq
 (rF [4,12] [qM 10 4,
 qN 11 false 10,
 qJ 12 .gtr 11 1])
 (cE 12 0))
 (.block 1
 (rF [4] [qM 13 4,
 qC 14 195 [13],
 qM 4 14])))))
 (.seq
 (rF [2,3] [qM 15 4,
 oQ 16 (.ia 1 (.t 15) (kI 0)),
 qL 17 16,
 qM 2 17,
 qB 3 true])
 .ret)))))
noncomputable def aIW:CM prog 155 1 [(0,[0]),(1,[0,7]),(2,[2,3]),(3,[4]),(4,[4,12]),(5,[4]),(6,[2,3])]:=.mk (m:=aS6) Go.Proofs.Tryz.func155 (by kernel_rfl)
def aTn:MC :=
 (.seq
 (rF [1] [oX 1 (.box (.t 0)),
 oQ 2 (.mov (.k (.d (.str []))))])
 (.seq
 (.any [] [1,3] (.q 1 (qF 5 1 1 1) (.q 2 (qL 6 5) (.q 3 (qJ 7 .sub 6 1) (.q 7 (qF 11 2 2 1) (.q 8 (qL 12 11) (.br (.e 0 (oX 4 (.bs 1 3 (.str []) [(0,(.k (.d (.str [107,101,101,112])))),(1,(.k (.d (.str [116,114,97,110,115,102,101,114])))),(2,(.k (.d (.str [100,101,115,116,114,111,121]))))])) (.q 4 (qX 8 1 4 7) (.q 5 (qL 9 8) (.q 6 (oQ 10 (.bin .add (.t 9) (.k (.d (.str [32,100,117,101,32]))))) (.e 9 (qC 13 106 [12]) (.q 10 (qT 14 .add 10 13) (.q 11 (qM 3 14) .done)))))))
 (.e 9 (qC 13 106 [12]) (.e 0 (oX 4 (.bs 1 3 (.str []) [(0,(.k (.d (.str [107,101,101,112])))),(1,(.k (.d (.str [116,114,97,110,115,102,101,114])))),(2,(.k (.d (.str [100,101,115,116,114,111,121]))))])) (.q 4 (qX 8 1 4 7) (.q 5 (qL 9 8) (.q 6 (oQ 10 (.bin .add (.t 9) (.k (.d (.str [32,100,117,101,32]))))) (.q 10 (qT 14 .add 10 13) (.q 11 (qM 3 14) .done))))))))))))))
 (.seq
 (.seq
 (rF [1,3,18] [qF 15 3 3 1,
 qL 16 15,
 qN 17 false 16,
 qJ 18 .gtr 17 0])
 (cS 18
 (rF [3] [qM 19 3,
 qF 20 3 3 1,
 qL 21 20,
 oX 22 (.call 152 [(.t 21),(.k (.d (.str [44])))]),
 oQ 23 (.bin .add (.k (.d (.str [32,104,101,108,100,32]))) (.t 22)),
 qT 24 .add 19 23,
 qM 3 24])))
 (.seq
 (rF [2] [qM 25 3,
 qM 2 25])
 .ret))))
noncomputable def aIJ:CM prog 156 1 [(0,[1]),(1,[1,3]),(2,[1,3,18]),(3,[3]),(4,[2]),(1000001,[0,1,1,1,2,1,3,1,7,1,8,3,2,0,1,4,1,5,1,6,2,9,1,10,1,11,0,2,9,2,0,1,4,1,5,1,6,1,10,1,11,0])]:=.mk (m:=aTn) Go.Proofs.Tryz.func156 (by kernel_rfl)
def aVx:MC :=
 (.seq
 (rF [0] [qI 2 0])
 (.seq
 (rF [0,3] [qI 3 7])
 (.seq
 (.seq
 (rF [0,3,6,7] [qM 5 0,
 qN 6 true 5,
 qI 7 0])
 (.block 0
 (.loop
 (.seq
 (rF [0,3,6,7,8] [qT 8 .lss 7 6])
 (.seq
 (cE 8 0)
 (.seq
 (.block 1
 (.seq
 (rF [0,3,4,6,7] [qM 9 7,
 qM 4 9])
 (rF [0,3,6,7] [qM 10 3,
 oQ 11 (.bin .mul (kI 41) (.t 10)),
 qM 12 0,
 qM 13 4,
 oQ 14 (.ix (.t 12) (.t 13)),
 oQ 15 (.conv .i64 (.t 14)),
 qT 16 .add 11 15,
 qJ 17 .add 16 1,
 qJ 18 .rem 17 999979,
 qM 3 18])))
 (rF [0,3,6,7] [qJ 19 .add 7 1,
 qM 7 19])))))))
 (.seq
 (rF [2] [qM 20 3,
 qM 2 20])
 .ret))))
noncomputable def aQx:CM prog 160 1 [(0,[0]),(1,[0,3]),(2,[0,3,6,7]),(3,[0,3,6,7,8]),(4,[0,3,4,6,7]),(5,[0,3,6,7]),(6,[0,3,6,7]),(7,[2])]:=.mk (m:=aVx) Go.Proofs.Tryz.func160 (by kernel_rfl)
def aVQ:MC :=
 (.seq
 (rF [0] [qB 2 false])
 (.seq
 (rF [2] [qM 3 0,
 oQ 4 (.bin .geq (.t 3) (.k (.d (.int .u8 97)))),
 qM 5 4,
 gM 6 5 true 0,
 oG 7 5 true (.bin .leq (.t 6) (.k (.d (.int .u8 122)))),
 qA 8 5 7,
 qM 2 8])
 .ret))
noncomputable def aRF:CM prog 163 1 [(0,[0]),(1,[2])]:=.mk (m:=aVQ) Go.Proofs.Tryz.func163 (by kernel_rfl)
def aUV:MC :=
 (.seq
 (rF [0] [oQ 2 (.mov (.k .nil))])
 (.seq
 (rF [0,3] [oX 5 (.bs 1 0 (.int .i64 0) []),
 qM 3 5])
 (.seq
 (.seq
 (rF [0,3,4] [qI 4 0])
 (.block 0
 (.loop
 (.seq
 (.seq
 (rF [0,3,4,9] [qM 6 4,
 qM 7 0,
 qN 8 false 7,
 qT 9 .lss 6 8])
 (cE 9 0))
 (.seq
 (.block 1
 (rF [0,3,4] [qM 12 3,
 qM 13 0,
 qM 14 4,
 qX 15 1 13 14,
 qL 16 15,
 qC 17 197 [16],
 oX 18 (.bs 1 1 (.int .i64 0) [(0,(.t 17))]),
 oX 19 (.app 1 8 (.t 12) (.t 18)),
 qM 3 19]))
 (rF [0,3,4] [qM 10 4,
 qJ 11 .add 10 1,
 qM 4 11]))))))
 (.seq
 (rF [2] [qM 20 3,
 qM 2 20])
 .ret))))
noncomputable def aQC:CM prog 164 1 [(0,[0]),(1,[0,3]),(2,[0,3,4]),(3,[0,3,4,9]),(4,[0,3,4]),(5,[0,3,4]),(6,[2])]:=.mk (m:=aUV) Go.Proofs.Tryz.func164 (by kernel_rfl)
def aVG:MC :=
 (.seq
 (rF [0] [oQ 2 (.mov (.k .nil))])
 (.seq
 (rF [0,3] [oX 5 (.bs 1 0 (.int .i64 0) []),
 qM 3 5])
 (.seq
 (.seq
 (rF [0,3,4] [qI 4 0])
 (.block 0
 (.loop
 (.seq
 (.seq
 (rF [0,3,4,9] [qM 6 4,
 qM 7 0,
 qN 8 false 7,
 qT 9 .lss 6 8])
 (cE 9 0))
 (.seq
 (.block 1
 (.seq
 (rF [0,3,4,16] [qM 12 4,
 qJ 13 .add 12 1,
 qM 14 0,
 qN 15 false 14,
 qT 16 .lss 13 15])
 (.cond (.t 16)
 (.any [] [0,3,4] (.q 0 (qM 17 3) (.q 1 (qM 18 0) (.q 2 (qM 19 4) (.q 3 (qX 20 1 18 19) (.q 4 (qL 21 20) (.q 5 (qM 22 0) (.q 6 (qM 23 4) (.q 7 (qJ 24 .add 23 1) (.q 8 (qX 25 1 22 24) (.q 9 (qL 26 25) (.e 10 (qC 27 198 [21,26]) (.e 11 (oX 28 (.bs 1 1 (.int .i64 0) [(0,(.t 27))])) (.e 12 (oX 29 (.app 1 8 (.t 17) (.t 28))) (.q 13 (qM 3 29) .done)))))))))))))))
 (rF [0,3,4] [qM 30 3,
 qM 31 0,
 qM 32 4,
 qX 33 1 31 32,
 qL 34 33,
 oX 35 (.bs 1 1 (.int .i64 0) [(0,(.t 34))]),
 oX 36 (.app 1 8 (.t 30) (.t 35)),
 qM 3 36]))))
 (rF [0,3,4] [qM 10 4,
 qJ 11 .add 10 2,
 qM 4 11]))))))
 (.seq
 (rF [2] [qM 37 3,
 qM 2 37])
 .ret))))
noncomputable def aQF:CM prog 165 1 [(0,[0]),(1,[0,3]),(2,[0,3,4]),(3,[0,3,4,9]),(4,[0,3,4]),(5,[0,3,4,16]),(6,[0,3,4]),(7,[0,3,4]),(8,[2]),(1000006,[0,1,0,1,1,1,2,1,3,1,4,1,5,1,6,1,7,1,8,1,9,2,10,2,11,2,12,1,13,0])]:=.mk (m:=aVG) Go.Proofs.Tryz.func165 (by kernel_rfl)
def aVi:MC :=
 (.seq
 (rF [1,2] [oX 2 (.box (.t 0)),
 qI 4 0])
 (.seq
 (.seq
 (rF [1,2,5] [qI 5 0])
 (.block 0
 (.loop
 (.seq
 (.seq
 (rF [1,2,5,10] [qM 6 5,
 qF 7 1 1 2,
 qL 8 7,
 qN 9 false 8,
 qT 10 .lss 6 9])
 (cE 10 0))
 (.seq
 (.block 1
 (.seq
 (rF [1,2,5,20] [qF 13 1 1 2,
 qL 14 13,
 qM 15 5,
 qX 16 4 14 15,
 qF 17 0 0 16,
 qL 18 17,
 qM 19 1,
 qT 20 .eql 18 19])
 (cS 20
 (.seq
 (rF [4] [qM 21 5,
 qM 4 21])
 .ret))))
 (rF [1,2,5] [qM 11 5,
 qJ 12 .add 11 1,
 qM 5 12]))))))
 (.seq
 (rF [4] [oQ 4 (.mov (.k (.d (.int .i64 (-1)))))])
 .ret)))
noncomputable def aQz:CM prog 166 2 [(0,[1,2]),(1,[1,2,5]),(2,[1,2,5,10]),(3,[1,2,5]),(4,[1,2,5,20]),(5,[4]),(6,[4])]:=.mk (m:=aVi) Go.Proofs.Tryz.func166 (by kernel_rfl)
def aO7:MC :=
 (.seq
 (rF [1] [oX 1 (.box (.t 0)),
 oQ 2 (.mov (.k (.d (.str []))))])
 (.seq
 (.any [] [1,3] (.q 1 (qF 6 1 1 1) (.q 2 (qL 7 6) (.q 6 (qF 11 2 2 1) (.q 7 (qL 12 11) (.br (.e 0 (oX 5 (.bs 1 4 (.str []) [(0,(.k (.d (.str [])))),(1,(.k (.d (.str [107,101,101,112])))),(2,(.k (.d (.str [116,114,97,110,115,102,101,114])))),(3,(.k (.d (.str [100,101,115,116,114,111,121]))))])) (.q 3 (qX 8 1 5 7) (.q 4 (qL 9 8) (.q 5 (oQ 10 (.bin .add (.t 9) (.k (.d (.str [32,100,117,101,32]))))) (.e 8 (qC 13 89 [12]) (.q 9 (qT 14 .add 10 13) (.q 10 (qM 3 14) .done)))))))
 (.e 8 (qC 13 89 [12]) (.e 0 (oX 5 (.bs 1 4 (.str []) [(0,(.k (.d (.str [])))),(1,(.k (.d (.str [107,101,101,112])))),(2,(.k (.d (.str [116,114,97,110,115,102,101,114])))),(3,(.k (.d (.str [100,101,115,116,114,111,121]))))])) (.q 3 (qX 8 1 5 7) (.q 4 (qL 9 8) (.q 5 (oQ 10 (.bin .add (.t 9) (.k (.d (.str [32,100,117,101,32]))))) (.q 9 (qT 14 .add 10 13) (.q 10 (qM 3 14) .done)))))))))))))
 (.seq
 (.seq
 (rF [1,3,4] [qI 4 0])
 (.block 0
 (.loop
 (.seq
 (.seq
 (rF [1,3,4,19] [qM 15 4,
 qF 16 3 3 1,
 qL 17 16,
 qN 18 false 17,
 qT 19 .lss 15 18])
 (cE 19 0))
 (.seq
 (.block 1
 (.seq
 (.seq
 (rF [1,3,4,23] [qM 22 4,
 qJ 23 .eql 22 0])
 (.cond (.t 23)
 (rF [1,3,4] [qM 24 3,
 oQ 25 (.bin .add (.t 24) (.k (.d (.str [32,104,101,108,100,32])))),
 qM 3 25])
 (rF [1,3,4] [qM 26 3,
 oQ 27 (.bin .add (.t 26) (.k (.d (.str [44])))),
 qM 3 27])))
 (rF [1,3,4] [qM 28 3,
 qF 29 3 3 1,
 qL 30 29,
 qM 31 4,
 qX 32 1 30 31,
 qL 33 32,
 qC 34 89 [33],
 qT 35 .add 28 34,
 qM 3 35])))
 (rF [1,3,4] [qM 20 4,
 qJ 21 .add 20 1,
 qM 4 21]))))))
 (.seq
 (rF [2] [qM 36 3,
 qM 2 36])
 .ret))))
noncomputable def aDv:CM prog 167 1 [(0,[1]),(1,[1,3]),(2,[1,3,4]),(3,[1,3,4,19]),(4,[1,3,4]),(5,[1,3,4,23]),(6,[1,3,4]),(7,[1,3,4]),(8,[1,3,4]),(9,[2]),(1000001,[0,1,1,1,2,1,6,1,7,3,2,0,1,3,1,4,1,5,2,8,1,9,1,10,0,2,8,2,0,1,3,1,4,1,5,1,9,1,10,0])]:=.mk (m:=aO7) Go.Proofs.Tryz.func167 (by kernel_rfl)
end Go.Pe.Tryz
