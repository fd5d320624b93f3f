/-
The compact code of the functions that the law reaches,printed by gen.py,each with the proof that the machine's code is compiled to it.
-/
import Derived.Test.YtjmobminbckhjaaGreatDoorMc1
import Derived.Test.YtjmobminbckhjaaGreatDoorProg
import Derived.KernelRfl
set_option maxRecDepth 100000
namespace Go.Pe.Tryz
open Go.Pe
def aWk:MC :=
 (.seq
 (rF [0,1] [qB 4 false])
 (.seq
 (rF [0,1,5] [qM 6 0,
 oQ 7 (.nck (.t 6)),
 qF 8 1 1 7,
 qL 9 8,
 qM 10 1,
 qX 11 4 9 10,
 oQ 12 (.ld (some 4) (.t 11)),
 oX 5 (.alloc (.st (.cons (.int .i64 0) (.cons (.int .i64 0) (.cons (.int .i64 0) (.cons (.sl true 1 .nil) .nil)))))),
 qS 4 5 12])
 (.seq
 (.seq
 (.reg true [0,1,5,19] [qF 13 2 2 5,
 qL 14 13,
 qM 15 0,
 oQ 16 (.nck (.t 15)),
 qF 17 0 0 16,
 qL 18 17,
 qT 19 .gtr 14 18])
 (cS 19
 (.seq
 (rF [0,4] [qB 4 false])
 .ret)))
 (.seq
 (.seq
 (rF [0,1,5,21] [qF 20 1 1 5,
 qL 21 20])
 (.block 0
 (.seq
 (rF [0,1,5,21,46] [qJ 47 .eql 21 1,
 qM 46 47])
 (.cond (.t 46)
 (rF [0,1] [qM 48 0,
 oQ 49 (.nck (.t 48)),
 qF 50 2 2 49,
 qL 51 50,
 qJ 52 .add 51 1,
 oQ 53 (.nck (.t 48)),
 qF 54 2 2 53,
 qS 1 54 52])
 (.seq
 (rF [0,1,5,55] [qJ 56 .eql 21 2,
 qM 55 56])
 (.cond (.t 55)
 (rF [0,1] [qM 57 0,
 oQ 58 (.nck (.t 57)),
 qF 59 3 3 58,
 qL 60 59,
 qJ 61 .add 60 1,
 oQ 62 (.nck (.t 57)),
 qF 63 3 3 62,
 qS 1 63 61])
 (.seq
 (.seq
 (rF [0,1,5,25] [qF 22 3 3 5,
 qL 23 22,
 qN 24 false 23,
 qJ 25 .gtr 24 0])
 (cS 25
 (.seq
 (rF [0,4] [qB 4 false])
 .ret)))
 (.any [20] [0,1] (.q 0 (qM 26 0) (.q 1 (qM 27 0) (.q 2 (oQ 28 (.nck (.t 27))) (.q 3 (qF 29 4 4 28) (.q 4 (qL 30 29) (.q 5 (qF 31 0 0 5) (.q 6 (qL 32 31) (.q 10 (qM 36 0) (.q 11 (oQ 37 (.nck (.t 36))) (.q 12 (qF 38 0 0 37) (.q 13 (qL 39 38) (.e 7 (qC 33 106 [32]) (.q 8 (oQ 34 (.bin .add (.k (.d (.str [114]))) (.t 33))) (.q 9 (oQ 35 (.bin .add (.t 34) (.k (.d (.str [32,100]))))) (.e 14 (qC 40 106 [39]) (.q 15 (qT 41 .add 35 40) (.e 16 (oX 42 (.bs 1 1 (.str []) [(0,(.t 41))])) (.e 17 (oX 43 (.app 1 16 (.t 30) (.t 42))) (.q 18 (oQ 44 (.nck (.t 26))) (.q 19 (qF 45 4 4 44) (.e 20 (qS 1 45 43) .done)))))))))))))))))))))))))))))
 (.seq
 (rF [0] [qM 64 0,
 qM 65 0,
 oQ 66 (.nck (.t 65)),
 qF 67 1 1 66,
 qL 68 67,
 qM 69 1,
 qM 70 1,
 qJ 71 .add 70 1,
 qC 72 215 [68,69,71],
 oQ 73 (.nck (.t 64)),
 qF 74 1 1 73,
 qS 1 74 72])
 (.seq
 (rF [0,4] [qB 4 true])
 .ret))))))
noncomputable def aQ7:CM prog 192 2 [(0,[0,1]),(1,[0,1,5]),(2,[0,1,5,19]),(3,[0,4]),(4,[0,1,5,21]),(5,[0,1,5,25]),(6,[0,4]),(7,[0,1]),(8,[0,1,5,21,46]),(9,[0,1]),(10,[0,1,5,55]),(11,[0,1]),(12,[0]),(13,[0,4]),(1000007,[1,20,1,0,1,1,1,2,1,3,1,4,1,5,1,6,1,10,1,11,1,12,1,13,2,7,1,8,1,9,2,14,1,15,2,16,2,17,1,18,1,19,2,20,0])]:=.mk (m:=aWk) Go.Proofs.Tryz.func192 (by kernel_rfl)
def aUa:MC :=
 (.seq
 (rF [0] [oQ 2 (.mov (.k .nil))])
 (.seq
 (rF [0,3] [oQ 3 (.mov (.k .nil))])
 (.seq
 (.seq
 (rF [3,6,7,8] [qM 6 0,
 qN 7 false 6,
 qI 8 0])
 (.block 0
 (.loop
 (.seq
 (rF [3,6,7,8,9] [qT 9 .lss 8 7])
 (.seq
 (cE 9 0)
 (.seq
 (.block 1
 (.seq
 (rF [3,5,6,7,8] [qX 10 1 6 8,
 qL 11 10,
 qM 5 11])
 (rF [3,6,7,8] [qM 12 3,
 qM 13 5,
 qC 14 219 [13],
 oX 15 (.bs 1 1 (.int .i64 0) [(0,(.t 14))]),
 oX 16 (.app 1 8 (.t 12) (.t 15)),
 qM 3 16])))
 (rF [3,6,7,8] [qJ 17 .add 8 1,
 qM 8 17])))))))
 (.seq
 (rF [2] [qM 18 3,
 qM 2 18])
 .ret))))
noncomputable def aRR:CM prog 194 1 [(0,[0]),(1,[0,3]),(2,[3,6,7,8]),(3,[3,6,7,8,9]),(4,[3,5,6,7,8]),(5,[3,6,7,8]),(6,[3,6,7,8]),(7,[2])]:=.mk (m:=aUa) Go.Proofs.Tryz.func194 (by kernel_rfl)
def aUg:MC :=
 (.seq
 (rF [0] [qI 2 0])
 (.seq
 (rF [2] [qM 3 0,
 oQ 4 (.bin .add (.k (.d (.str [108]))) (.t 3)),
 qC 5 130 [4],
 qM 2 5])
 .ret))
noncomputable def aQL:CM prog 197 1 [(0,[0]),(1,[2])]:=.mk (m:=aUg) Go.Proofs.Tryz.func197 (by kernel_rfl)
def aT1:MC :=
 (.seq
 (rF [0,1] [qI 4 0])
 (.seq
 (rF [4] [qM 5 0,
 qC 6 89 [5],
 oQ 7 (.bin .add (.k (.d (.str [110]))) (.t 6)),
 oQ 8 (.bin .add (.t 7) (.k (.d (.str [44])))),
 qM 9 1,
 qC 10 89 [9],
 qT 11 .add 8 10,
 qC 12 130 [11],
 qM 4 12])
 .ret))
noncomputable def aQ8:CM prog 198 2 [(0,[0,1]),(1,[4])]:=.mk (m:=aT1) Go.Proofs.Tryz.func198 (by kernel_rfl)
def aVR:MC :=
 (.seq
 (rF [0,1] [oQ 4 (.mov (.k (.d (.str []))))])
 (.seq
 (.block 0
 (.loop
 (.seq
 (.seq
 (rF [0,1,7] [qM 5 0,
 qN 6 true 5,
 qJ 7 .gtr 6 0])
 (cE 7 0))
 (.block 1
 (.seq
 (.seq
 (rF [0,1,12] [qM 8 1,
 qM 9 0,
 oQ 10 (.ix (.t 9) (kI 0)),
 qC 11 222 [8,10],
 qU 12 11])
 (cS 12
 (.exit 0)))
 (rF [0,1] [qM 13 0,
 oQ 14 (.sls (.t 13) (some (kI 1)) none),
 qM 0 14]))))))
 (.seq
 (rF [4] [qM 15 0,
 qM 4 15])
 .ret)))
noncomputable def aQI:CM prog 202 0 [(0,[0,1]),(1,[0,1,7]),(2,[0,1,12]),(3,[0,1]),(4,[4])]:=.mk (m:=aVR) Go.Proofs.Tryz.func202 (by kernel_rfl)
def aU9:MC :=
 (.seq
 (rF [0,1] [oQ 4 (.mov (.k (.d (.str []))))])
 (.seq
 (.block 0
 (.loop
 (.seq
 (.seq
 (rF [0,1,7] [qM 5 0,
 qN 6 true 5,
 qJ 7 .gtr 6 0])
 (cE 7 0))
 (.block 1
 (.seq
 (.seq
 (rF [0,1,15] [qM 8 1,
 qM 9 0,
 qM 10 0,
 qN 11 true 10,
 qJ 12 .sub 11 1,
 oQ 13 (.ix (.t 9) (.t 12)),
 qC 14 222 [8,13],
 qU 15 14])
 (cS 15
 (.exit 0)))
 (rF [0,1] [qM 16 0,
 qM 17 0,
 qN 18 true 17,
 qJ 19 .sub 18 1,
 oQ 20 (.sls (.t 16) none (some (.t 19))),
 qM 0 20]))))))
 (.seq
 (rF [4] [qM 21 0,
 qM 4 21])
 .ret)))
noncomputable def aRu:CM prog 203 0 [(0,[0,1]),(1,[0,1,7]),(2,[0,1,15]),(3,[0,1]),(4,[4])]:=.mk (m:=aU9) Go.Proofs.Tryz.func203 (by kernel_rfl)
def aT9:MC :=
 (.seq
 (rF [0,1,2,3,8] [qB 8 true])
 (.seq
 (rF [0,1,2,3,8,9] [qB 9 true])
 (.block 0
 (.loop
 (.block 1
 (.seq
 (rF [0,1,2,3,8,9,10] [qM 19 2,
 qM 20 1,
 qT 21 .sub 19 20,
 qM 10 21])
 (.seq
 (.seq
 (rF [0,1,2,3,8,9,10,23] [qM 22 10,
 qJ 23 .leq 22 12])
 (cS 23
 (.seq
 (rF [0] [qM 24 0,
 qM 25 1,
 qM 26 2,
 qC 27 232 [24,25,26]])
 .ret)))
 (.seq
 (.seq
 (rF [0,1,2,3,8,9,10,29] [qM 28 3,
 qJ 29 .eql 28 0])
 (cS 29
 (.seq
 (rF [0] [qM 30 0,
 qM 31 1,
 qM 32 2,
 qC 33 233 [30,31,32]])
 .ret)))
 (.seq
 (.seq
 (rF [0,1,2,3,8,9,10,35] [qM 34 8,
 qU 35 34])
 (cS 35
 (.seq
 (rF [0,1,2,3,8,9,10] [qM 36 0,
 qM 37 1,
 qM 38 2,
 qC 39 234 [36,37,38]])
 (rF [0,1,2,3,8,9,10] [qM 40 3,
 qJ 41 .sub 40 1,
 qM 3 41]))))
 (.seq
 (rF [0,1,2,3,8,9,10,11,12] [qM 43 0,
 qM 44 1,
 qM 45 2,
 qC 46 235 [43,44,45],
 qM 42 46,
 qE 47 42 0,
 qE 48 42 1,
 qM 11 47,
 qM 12 48])
 (.seq
 (.seq
 (rF [0,1,2,3,8,9,10,11,12,50] [qM 49 12,
 qJ 50 .eql 49 2])
 (cS 50
 (.seq
 (rF [0,1,2,3,8,9,10,11] [qM 51 0,
 qM 52 1,
 qM 53 2,
 qC 54 236 [51,52,53]])
 (.seq
 (rF [0,1,2,3,8,9,10,11] [qM 55 2,
 qJ 56 .sub 55 1,
 qM 57 11,
 qM 58 1,
 qT 59 .sub 57 58,
 qT 60 .sub 56 59,
 qM 11 60])
 (rF [0,1,2,3,8,9,10,11,12] [qI 12 1])))))
 (.seq
 (.seq
 (rF [0,1,2,3,8,9,10,11,68] [qM 61 8,
 qM 62 61,
 gM 63 62 true 9,
 qA 64 62 63,
 qM 65 64,
 gM 66 65 true 12,
 oG 67 65 true (.bin .eql (.t 66) (kI 1)),
 qA 68 65 67])
 (cS 68
 (.seq
 (rF [0,1,2,3,8,9,10,11,72] [qM 69 0,
 qM 70 1,
 qM 71 2,
 qC 72 237 [69,70,71]])
 (cS 72
 .ret))))
 (.seq
 (.seq
 (.reg true [0,1,2,3,8,9,10,11,87] [qM 73 1,
 qJ 74 .gtr 73 0,
 qM 75 74,
 gM 76 75 true 0,
 gM 77 75 true 1,
 oG 78 75 true (.bin .sub (.t 77) (kI 1)),
 oG 79 75 true (.ia 1 (.t 76) (.t 78)),
 gL 80 75 true 79,
 gM 81 75 true 0,
 gM 82 75 true 11,
 oG 83 75 true (.ia 1 (.t 81) (.t 82)),
 gL 84 75 true 83,
 oG 85 75 true (.callP 238 [(.t 80),(.t 84)]),
 oG 86 75 true (.un .not (.t 85)),
 qA 87 75 86])
 (cS 87
 (.seq
 (rF [0,2,3,8,9,13] [qM 88 0,
 qM 89 1,
 qM 90 2,
 qM 91 11,
 qC 92 239 [88,89,90,91],
 qM 13 92])
 (.seq
 (rF [0,1,2,3,8,9] [qM 93 13,
 qM 1 93])
 (.exit 1)))))
 (.seq
 (rF [0,1,2,3,10,14,15] [qM 95 0,
 qM 96 1,
 qM 97 2,
 qM 98 11,
 qC 99 240 [95,96,97,98],
 qM 94 99,
 qE 100 94 0,
 qE 101 94 1,
 qM 14 100,
 qM 15 101])
 (.seq
 (rF [0,1,2,3,9,10,14] [qM 102 15,
 qM 9 102])
 (.seq
 (rF [0,1,2,3,9,10,14,16,17] [qM 103 14,
 qM 104 1,
 qT 105 .sub 103 104,
 qM 106 2,
 qM 107 14,
 qT 108 .sub 106 107,
 qM 16 105,
 qM 17 108])
 (.seq
 (rF [0,1,2,3,9,14,16,17,18] [qM 109 10,
 qJ 110 .quo 109 8,
 qM 18 110])
 (.seq
 (rF [0,1,2,3,9,14,16,17,18,113] [qM 111 16,
 qM 112 17,
 qT 113 .lss 111 112])
 (.cond (.t 113)
 (.seq
 (rF [0,1,2,3,8,9,14] [qM 114 16,
 qM 115 18,
 qT 116 .geq 114 115,
 qM 8 116])
 (.seq
 (rF [0,2,3,8,9,14] [qM 117 0,
 qM 118 1,
 qM 119 14,
 qM 120 3,
 qC 121 213 [117,118,119,120]])
 (rF [0,1,2,3,8,9] [qM 122 14,
 qJ 123 .add 122 1,
 qM 1 123])))
 (.seq
 (rF [0,1,2,3,8,9,14] [qM 124 17,
 qM 125 18,
 qT 126 .geq 124 125,
 qM 8 126])
 (.seq
 (rF [0,1,3,8,9,14] [qM 127 0,
 qM 128 14,
 qJ 129 .add 128 1,
 qM 130 2,
 qM 131 3,
 qC 132 213 [127,129,130,131]])
 (rF [0,1,2,3,8,9] [qM 133 14,
 qM 2 133]))))))))))))))))))))))
noncomputable def aRj:CM prog 213 1 [(0,[0,1,2,3,8]),(1,[0,1,2,3,8,9]),(2,[0,1,2,3,8,9,10]),(3,[0,1,2,3,8,9,10,23]),(4,[0]),(5,[0,1,2,3,8,9,10,29]),(6,[0]),(7,[0,1,2,3,8,9,10,35]),(8,[0,1,2,3,8,9,10]),(9,[0,1,2,3,8,9,10]),(10,[0,1,2,3,8,9,10,11,12]),(11,[0,1,2,3,8,9,10,11,12,50]),(12,[0,1,2,3,8,9,10,11]),(13,[0,1,2,3,8,9,10,11]),(14,[0,1,2,3,8,9,10,11,12]),(15,[0,1,2,3,8,9,10,11,68]),(16,[0,1,2,3,8,9,10,11,72]),(17,[0,1,2,3,8,9,10,11,87]),(18,[0,2,3,8,9,13]),(19,[0,1,2,3,8,9]),(20,[0,1,2,3,10,14,15]),(21,[0,1,2,3,9,10,14]),(22,[0,1,2,3,9,10,14,16,17]),(23,[0,1,2,3,9,14,16,17,18]),(24,[0,1,2,3,9,14,16,17,18,113]),(25,[0,1,2,3,8,9,14]),(26,[0,2,3,8,9,14]),(27,[0,1,2,3,8,9]),(28,[0,1,2,3,8,9,14]),(29,[0,1,3,8,9,14]),(30,[0,1,2,3,8,9])]:=.mk (m:=aT9) Go.Proofs.Tryz.func213 (by kernel_rfl)
def aUl:MC :=
 (.seq
 (rF [0] [qI 2 0])
 (.seq
 (.cond (kB false)
 (.seq
 (rF [2] [qM 3 0,
 oQ 4 (.conv .u32 (.t 3)),
 qC 5 241 [4],
 qM 2 5])
 .ret)
 .skip)
 (.seq
 (rF [2] [qM 6 0,
 qC 7 242 [6],
 qM 2 7])
 .ret)))
noncomputable def aRA:CM prog 214 1 [(0,[0]),(1,[2]),(2,[2])]:=.mk (m:=aUl) Go.Proofs.Tryz.func214 (by kernel_rfl)
def aUn:MC :=
 (.seq
 (rF [0] [qI 2 0])
 (.seq
 (rF [3] [qM 6 0,
 oQ 7 (.bin .add (.k (.d (.str [108]))) (.t 6)),
 qC 8 245 [7],
 qM 5 8,
 qE 9 5 0,
 qE 10 5 1,
 qM 3 9,
 qM 4 10])
 (.seq
 (rF [2] [qM 11 3,
 qM 2 11])
 .ret)))
noncomputable def aQB:CM prog 219 1 [(0,[0]),(1,[3]),(2,[2])]:=.mk (m:=aUn) Go.Proofs.Tryz.func219 (by kernel_rfl)
def aUD:MC :=
 (.seq
 (rF [0,1] [qI 4 0])
 (.seq
 (rF [5] [qM 8 0,
 qC 9 106 [8],
 oQ 10 (.bin .add (.k (.d (.str [110]))) (.t 9)),
 oQ 11 (.bin .add (.t 10) (.k (.d (.str [44])))),
 qM 12 1,
 qC 13 106 [12],
 qT 14 .add 11 13,
 qC 15 245 [14],
 qM 7 15,
 qE 16 7 0,
 qE 17 7 1,
 qM 5 16,
 qM 6 17])
 (.seq
 (rF [4] [qM 18 5,
 qM 4 18])
 .ret)))
noncomputable def aQO:CM prog 221 2 [(0,[0,1]),(1,[5]),(2,[4])]:=.mk (m:=aUD) Go.Proofs.Tryz.func221 (by kernel_rfl)
def aUp:MC :=
 (.seq
 (rF [0,1] [qB 4 false])
 (.seq
 (rF [0,4] [qM 5 0,
 qM 6 1,
 oQ 7 (.nck (.t 5)),
 oQ 8 (.iar 256 1 (.t 7) (.t 6)),
 qL 9 8,
 qM 4 9])
 .ret))
noncomputable def aRM:CM prog 222 2 [(0,[0,1]),(1,[0,4])]:=.mk (m:=aUp) Go.Proofs.Tryz.func222 (by kernel_rfl)
def aWi:MC :=
 (.seq
 (rF [0,1,2,6] [qM 8 1,
 qJ 9 .add 8 1,
 qM 6 9])
 (.block 0
 (.loop
 (.seq
 (.seq
 (rF [0,1,2,6,12] [qM 10 6,
 qM 11 2,
 qT 12 .lss 10 11])
 (cE 12 0))
 (.seq
 (.block 1
 (.seq
 (rF [0,1,2,6,7] [qM 15 6,
 qM 7 15])
 (.block 2
 (.loop
 (.seq
 (.seq
 (.reg true [0,1,2,6,7,30] [qM 16 7,
 qM 17 1,
 qT 18 .gtr 16 17,
 qM 19 18,
 gM 20 19 true 0,
 gM 21 19 true 7,
 oG 22 19 true (.ia 1 (.t 20) (.t 21)),
 gL 23 19 true 22,
 gM 24 19 true 0,
 gM 25 19 true 7,
 oG 26 19 true (.bin .sub (.t 25) (kI 1)),
 oG 27 19 true (.ia 1 (.t 24) (.t 26)),
 gL 28 19 true 27,
 oG 29 19 true (.callP 238 [(.t 23),(.t 28)]),
 qA 30 19 29])
 (cE 30 2))
 (.seq
 (.block 3
 (.any [15,16,17] [0,1,2,6,7] (.q 0 (qM 33 0) (.q 1 (qM 34 7) (.q 2 (qM 35 0) (.q 3 (qM 36 7) (.q 4 (qJ 37 .sub 36 1) (.q 5 (qM 38 0) (.q 6 (qM 39 7) (.q 7 (qJ 40 .sub 39 1) (.q 8 (qX 41 1 38 40) (.q 9 (qL 42 41) (.q 10 (qM 43 0) (.q 11 (qM 44 7) (.q 12 (qX 45 1 43 44) (.q 13 (qL 46 45) (.q 14 (qX 47 1 33 34) (.e 15 (qS 1 47 42) (.e 16 (qX 48 1 35 37) (.e 17 (qS 1 48 46) .done))))))))))))))))))))
 (rF [0,1,2,6,7] [qM 31 7,
 qJ 32 .sub 31 1,
 qM 7 32])))))))
 (rF [0,1,2,6] [qM 13 6,
 qJ 14 .add 13 1,
 qM 6 14]))))))
noncomputable def aQT:CM prog 232 3 [(0,[0,1,2,6]),(1,[0,1,2,6,12]),(2,[0,1,2,6]),(3,[0,1,2,6,7]),(4,[0,1,2,6,7,30]),(5,[0,1,2,6,7]),(6,[0,1,2,6,7]),(1000006,[3,15,16,17,1,0,1,1,1,2,1,3,1,4,1,5,1,6,1,7,1,8,1,9,1,10,1,11,1,12,1,13,1,14,2,15,2,16,2,17,0])]:=.mk (m:=aWi) Go.Proofs.Tryz.func232 (by kernel_rfl)
def aVz:MC :=
 (.seq
 (rF [0,1] [qB 4 false])
 (.seq
 (rF [4] [qM 5 0,
 qC 6 258 [5],
 qM 7 6,
 gM 8 7 true 1,
 oH 9 7 true (.call 258 [(.t 8)]),
 oG 10 7 true (.un .not (.t 9)),
 qA 11 7 10,
 qM 12 11,
 gM 13 12 false 0,
 gM 14 12 false 1,
 oG 15 12 false (.bin .lss (.t 13) (.t 14)),
 qO 16 12 15,
 qM 4 16])
 .ret))
noncomputable def aRJ:CM prog 238 2 [(0,[0,1]),(1,[4])]:=.mk (m:=aVz) Go.Proofs.Tryz.func238 (by kernel_rfl)
def aUM:MC :=
 (.seq
 (rF [0,2] [qI 2 0])
 (.seq
 (.seq
 (rF [0,2,4] [qM 3 0,
 oQ 4 (.bin .geq (.t 3) (.k (.d (.int .u64 4294967296))))])
 (cS 4
 (.seq
 (rF [0] [qM 5 0,
 oQ 6 (.shr (.t 5) (.k (.d (.int .u64 32)))),
 qM 0 6])
 (rF [0,2] [qI 2 32]))))
 (.seq
 (.seq
 (rF [0,2,8] [qM 7 0,
 oQ 8 (.bin .geq (.t 7) (.k (.d (.int .u64 65536))))])
 (cS 8
 (.seq
 (rF [0,2] [qM 9 0,
 oQ 10 (.shr (.t 9) (.k (.d (.int .u64 16)))),
 qM 0 10])
 (rF [0,2] [qM 11 2,
 qJ 12 .add 11 16,
 qM 2 12]))))
 (.seq
 (.seq
 (rF [0,2,14] [qM 13 0,
 oQ 14 (.bin .geq (.t 13) (.k (.d (.int .u64 256))))])
 (cS 14
 (.seq
 (rF [0,2] [qM 15 0,
 oQ 16 (.shr (.t 15) (.k (.d (.int .u64 8)))),
 qM 0 16])
 (rF [0,2] [qM 17 2,
 qJ 18 .add 17 8,
 qM 2 18]))))
 (.seq
 (rF [2] [qM 19 2,
 qM 20 0,
 oQ 21 (.conv .u8 (.t 20)),
 oQ 22 (.ix (.k (.d (.str [0,1,2,2,3,3,3,3,4,4,4,4,4,4,4,4,5,5,5,5,5,5,5,5,5,5,5,5,5,5,5,5,6,6,6,6,6,6,6,6,6,6,6,6,6,6,6,6,6,6,6,6,6,6,6,6,6,6,6,6,6,6,6,6,7,7,7,7,7,7,7,7,7,7,7,7,7,7,7,7,7,7,7,7,7,7,7,7,7,7,7,7,7,7,7,7,7,7,7,7,7,7,7,7,7,7,7,7,7,7,7,7,7,7,7,7,7,7,7,7,7,7,7,7,7,7,7,7,8,8,8,8,8,8,8,8,8,8,8,8,8,8,8,8,8,8,8,8,8,8,8,8,8,8,8,8,8,8,8,8,8,8,8,8,8,8,8,8,8,8,8,8,8,8,8,8,8,8,8,8,8,8,8,8,8,8,8,8,8,8,8,8,8,8,8,8,8,8,8,8,8,8,8,8,8,8,8,8,8,8,8,8,8,8,8,8,8,8,8,8,8,8,8,8,8,8,8,8,8,8,8,8,8,8,8,8,8,8,8,8,8,8,8,8,8,8,8,8,8,8,8,8,8,8,8,8]))) (.t 21)),
 oQ 23 (.conv .i64 (.t 22)),
 qT 24 .add 19 23,
 qM 2 24])
 .ret)))))
noncomputable def aQ0:CM prog 242 0 [(0,[0,2]),(1,[0,2,4]),(2,[0]),(3,[0,2]),(4,[0,2,8]),(5,[0,2]),(6,[0,2]),(7,[0,2,14]),(8,[0,2]),(9,[0,2]),(10,[2])]:=.mk (m:=aUM) Go.Proofs.Tryz.func242 (by kernel_rfl)
def aVl:MC :=
 (.seq
 (rF [0] [qI 2 0,
 qB 3 false])
 (.seq
 (.seq
 (rF [0,6] [qM 4 0,
 qN 5 true 4,
 qJ 6 .gtr 5 4000])
 (cS 6
 (.seq
 (rF [2,3] [qI 2 0,
 qB 3 false])
 .ret)))
 (.seq
 (rF [2,3] [qM 7 0,
 qC 8 160 [7],
 qM 2 8,
 qB 3 true])
 .ret)))
noncomputable def aRB:CM prog 245 1 [(0,[0]),(1,[0,6]),(2,[2,3]),(3,[2,3])]:=.mk (m:=aVl) Go.Proofs.Tryz.func245 (by kernel_rfl)
def aVf:MC :=
 (.seq
 (rF [0] [qB 2 false])
 (.seq
 (rF [2] [qM 3 0,
 qM 4 0,
 qT 5 .neq 3 4,
 qM 2 5])
 .ret))
noncomputable def aRk:CM prog 258 1 [(0,[0]),(1,[2])]:=.mk (m:=aVf) Go.Proofs.Tryz.func258 (by kernel_rfl)
end Go.Pe.Tryz
