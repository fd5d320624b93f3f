/-
The compact code of the functions that the law reaches,printed by gen.py,each with the proof that the machine's code is compiled to it.
-/
import Derived.Test.YtmkmjcgkcpmmpaaGreatDoorMc1
import Derived.Test.YtmkmjcgkcpmmpaaGreatDoorProg
import Derived.KernelRfl
set_option maxRecDepth 100000
namespace Go.Pe.Tryz
open Go.Pe
def aN5:List (Nat×List Nat):=[(0,[0,1,2,3,8]),(1,[0,1,2,3,8,9]),(2,[0,1,2,3,8,9,10]),(3,[0,1,2,3,8,9,10,23]),(4,[0]),(5,[0,1,2,3,8,9,10,29]),(6,[0]),(7,[0,1,2,3,8,9,10,35]),(8,[0,1,2,3,8,9,10]),(9,[0,1,2,3,8,9,10]),(10,[0,1,2,3,8,9,10,11,12]),(11,[0,1,2,3,8,9,10,11,12,50]),(12,[0,1,2,3,8,9,10,11]),(13,[0,1,2,3,8,9,10,11]),(14,[0,1,2,3,8,9,10,11,12]),(15,[0,1,2,3,8,9,10,11,68]),(16,[0,1,2,3,8,9,10,11,72]),(17,[0,1,2,3,8,9,10,11,87]),(18,[0,2,3,8,9,13]),(19,[0,1,2,3,8,9]),(20,[0,1,2,3,10,14,15]),(21,[0,1,2,3,9,10,14]),(22,[0,1,2,3,9,10,14,16,17]),(23,[0,1,2,3,9,14,16,17,18]),(24,[0,1,2,3,9,14,16,17,18,113]),(25,[0,1,2,3,8,9,14]),(26,[0,2,3,8,9,14]),(27,[0,1,2,3,8,9]),(28,[0,1,2,3,8,9,14]),(29,[0,1,3,8,9,14]),(30,[0,1,2,3,8,9])]
def aOs:MC :=
 (.seq
 (.reg false [0,1,2,3,8] [oQ 8 (.mov (kB true))])
 (.seq
 (.reg false [0,1,2,3,8,9] [oQ 9 (.mov (kB true))])
 (.block 0
 (.loop
 (.block 1
 (.seq
 (.reg false [0,1,2,3,8,9,10] [oQ 19 (.mov (.t 2)),
 oQ 20 (.mov (.t 1)),
 oQ 21 (.bin .sub (.t 19) (.t 20)),
 oQ 10 (.mov (.t 21))])
 (.seq
 (.seq
 (.reg false [0,1,2,3,8,9,10,23] [oQ 22 (.mov (.t 10)),
 oQ 23 (.bin .leq (.t 22) (kI 12))])
 (.cond (.t 23)
 (.seq
 (.reg false [0] [oQ 24 (.mov (.t 0)),
 oQ 25 (.mov (.t 1)),
 oQ 26 (.mov (.t 2)),
 oX 27 (.call 137 [(.t 24),(.t 25),(.t 26)])])
 .ret)
 .skip))
 (.seq
 (.seq
 (.reg false [0,1,2,3,8,9,10,29] [oQ 28 (.mov (.t 3)),
 oQ 29 (.bin .eql (.t 28) (kI 0))])
 (.cond (.t 29)
 (.seq
 (.reg false [0] [oQ 30 (.mov (.t 0)),
 oQ 31 (.mov (.t 1)),
 oQ 32 (.mov (.t 2)),
 oX 33 (.call 138 [(.t 30),(.t 31),(.t 32)])])
 .ret)
 .skip))
 (.seq
 (.seq
 (.reg false [0,1,2,3,8,9,10,35] [oQ 34 (.mov (.t 8)),
 oQ 35 (.un .not (.t 34))])
 (.cond (.t 35)
 (.seq
 (.reg false [0,1,2,3,8,9,10] [oQ 36 (.mov (.t 0)),
 oQ 37 (.mov (.t 1)),
 oQ 38 (.mov (.t 2)),
 oX 39 (.call 139 [(.t 36),(.t 37),(.t 38)])])
 (.reg false [0,1,2,3,8,9,10] [oQ 40 (.mov (.t 3)),
 oQ 41 (.bin .sub (.t 40) (kI 1)),
 oQ 3 (.mov (.t 41))]))
 .skip))
 (.seq
 (.reg false [0,1,2,3,8,9,10,11,12] [oQ 43 (.mov (.t 0)),
 oQ 44 (.mov (.t 1)),
 oQ 45 (.mov (.t 2)),
 oX 46 (.call 140 [(.t 43),(.t 44),(.t 45)]),
 oQ 42 (.mov (.t 46)),
 oQ 47 (.ext (.t 42) 0),
 oQ 48 (.ext (.t 42) 1),
 oQ 11 (.mov (.t 47)),
 oQ 12 (.mov (.t 48))])
 (.seq
 (.seq
 (.reg false [0,1,2,3,8,9,10,11,12,50] [oQ 49 (.mov (.t 12)),
 oQ 50 (.bin .eql (.t 49) (kI 2))])
 (.cond (.t 50)
 (.seq
 (.reg false [0,1,2,3,8,9,10,11] [oQ 51 (.mov (.t 0)),
 oQ 52 (.mov (.t 1)),
 oQ 53 (.mov (.t 2)),
 oX 54 (.call 141 [(.t 51),(.t 52),(.t 53)])])
 (.seq
 (.reg false [0,1,2,3,8,9,10,11] [oQ 55 (.mov (.t 2)),
 oQ 56 (.bin .sub (.t 55) (kI 1)),
 oQ 57 (.mov (.t 11)),
 oQ 58 (.mov (.t 1)),
 oQ 59 (.bin .sub (.t 57) (.t 58)),
 oQ 60 (.bin .sub (.t 56) (.t 59)),
 oQ 11 (.mov (.t 60))])
 (.reg false [0,1,2,3,8,9,10,11,12] [oQ 12 (.mov (kI 1))])))
 .skip))
 (.seq
 (.seq
 (.reg false [0,1,2,3,8,9,10,11,68] [oQ 61 (.mov (.t 8)),
 oQ 62 (.mov (.t 61)),
 oG 63 62 true (.mov (.t 9)),
 oQ 64 (.pick (.t 62) (.t 63) (kB false)),
 oQ 65 (.mov (.t 64)),
 oG 66 65 true (.mov (.t 12)),
 oG 67 65 true (.bin .eql (.t 66) (kI 1)),
 oQ 68 (.pick (.t 65) (.t 67) (kB false))])
 (.cond (.t 68)
 (.seq
 (.reg false [0,1,2,3,8,9,10,11,72] [oQ 69 (.mov (.t 0)),
 oQ 70 (.mov (.t 1)),
 oQ 71 (.mov (.t 2)),
 oX 72 (.call 142 [(.t 69),(.t 70),(.t 71)])])
 (.cond (.t 72)
 .ret
 .skip))
 .skip))
 (.seq
 (.seq
 (.reg true [0,1,2,3,8,9,10,11,87] [oQ 73 (.mov (.t 1)),
 oQ 74 (.bin .gtr (.t 73) (kI 0)),
 oQ 75 (.mov (.t 74)),
 oG 76 75 true (.mov (.t 0)),
 oG 77 75 true (.mov (.t 1)),
 oG 78 75 true (.bin .sub (.t 77) (kI 1)),
 oG 79 75 true (.ia 1 (.t 76) (.t 78)),
 oG 80 75 true (.ld none (.t 79)),
 oG 81 75 true (.mov (.t 0)),
 oG 82 75 true (.mov (.t 11)),
 oG 83 75 true (.ia 1 (.t 81) (.t 82)),
 oG 84 75 true (.ld none (.t 83)),
 oG 85 75 true (.callP 143 [(.t 80),(.t 84)]),
 oG 86 75 true (.un .not (.t 85)),
 oQ 87 (.pick (.t 75) (.t 86) (kB false))])
 (.cond (.t 87)
 (.seq
 (.reg false [0,2,3,8,9,13] [oQ 88 (.mov (.t 0)),
 oQ 89 (.mov (.t 1)),
 oQ 90 (.mov (.t 2)),
 oQ 91 (.mov (.t 11)),
 oX 92 (.call 144 [(.t 88),(.t 89),(.t 90),(.t 91)]),
 oQ 13 (.mov (.t 92))])
 (.seq
 (.reg false [0,1,2,3,8,9] [oQ 93 (.mov (.t 13)),
 oQ 1 (.mov (.t 93))])
 (.exit 1)))
 .skip))
 (.seq
 (.reg false [0,1,2,3,10,14,15] [oQ 95 (.mov (.t 0)),
 oQ 96 (.mov (.t 1)),
 oQ 97 (.mov (.t 2)),
 oQ 98 (.mov (.t 11)),
 oX 99 (.call 145 [(.t 95),(.t 96),(.t 97),(.t 98)]),
 oQ 94 (.mov (.t 99)),
 oQ 100 (.ext (.t 94) 0),
 oQ 101 (.ext (.t 94) 1),
 oQ 14 (.mov (.t 100)),
 oQ 15 (.mov (.t 101))])
 (.seq
 (.reg false [0,1,2,3,9,10,14] [oQ 102 (.mov (.t 15)),
 oQ 9 (.mov (.t 102))])
 (.seq
 (.reg false [0,1,2,3,9,10,14,16,17] [oQ 103 (.mov (.t 14)),
 oQ 104 (.mov (.t 1)),
 oQ 105 (.bin .sub (.t 103) (.t 104)),
 oQ 106 (.mov (.t 2)),
 oQ 107 (.mov (.t 14)),
 oQ 108 (.bin .sub (.t 106) (.t 107)),
 oQ 16 (.mov (.t 105)),
 oQ 17 (.mov (.t 108))])
 (.seq
 (.reg false [0,1,2,3,9,14,16,17,18] [oQ 109 (.mov (.t 10)),
 oQ 110 (.bin .quo (.t 109) (kI 8)),
 oQ 18 (.mov (.t 110))])
 (.seq
 (.reg false [0,1,2,3,9,14,16,17,18,113] [oQ 111 (.mov (.t 16)),
 oQ 112 (.mov (.t 17)),
 oQ 113 (.bin .lss (.t 111) (.t 112))])
 (.cond (.t 113)
 (.seq
 (.reg false [0,1,2,3,8,9,14] [oQ 114 (.mov (.t 16)),
 oQ 115 (.mov (.t 18)),
 oQ 116 (.bin .geq (.t 114) (.t 115)),
 oQ 8 (.mov (.t 116))])
 (.seq
 (.reg false [0,2,3,8,9,14] [oQ 117 (.mov (.t 0)),
 oQ 118 (.mov (.t 1)),
 oQ 119 (.mov (.t 14)),
 oQ 120 (.mov (.t 3)),
 oX 121 (.call 118 [(.t 117),(.t 118),(.t 119),(.t 120)])])
 (.reg false [0,1,2,3,8,9] [oQ 122 (.mov (.t 14)),
 oQ 123 (.bin .add (.t 122) (kI 1)),
 oQ 1 (.mov (.t 123))])))
 (.seq
 (.reg false [0,1,2,3,8,9,14] [oQ 124 (.mov (.t 17)),
 oQ 125 (.mov (.t 18)),
 oQ 126 (.bin .geq (.t 124) (.t 125)),
 oQ 8 (.mov (.t 126))])
 (.seq
 (.reg false [0,1,3,8,9,14] [oQ 127 (.mov (.t 0)),
 oQ 128 (.mov (.t 14)),
 oQ 129 (.bin .add (.t 128) (kI 1)),
 oQ 130 (.mov (.t 2)),
 oQ 131 (.mov (.t 3)),
 oX 132 (.call 118 [(.t 127),(.t 129),(.t 130),(.t 131)])])
 (.reg false [0,1,2,3,8,9] [oQ 133 (.mov (.t 14)),
 oQ 2 (.mov (.t 133))]))))))))))))))))))))))
theorem aSl:(Go.Proofs.Tryz.f118).body.bind (comp prog.P (1,(Go.Proofs.Tryz.f118).ntmps) aN5)=some aOs:=by kernel_rfl
theorem aQu:b6 prog.P (Go.Proofs.Tryz.f118).results.toList=true:=by kernel_rfl
def aPu:List (Nat×List Nat):=[(0,[0]),(1,[2]),(2,[2])]
def aO5:MC :=
 (.seq
 (.reg false [0] [oQ 2 (.mov (kI 0))])
 (.seq
 (.cond (kB false)
 (.seq
 (.reg false [2] [oQ 3 (.mov (.t 0)),
 oQ 4 (.conv .u32 (.t 3)),
 oX 5 (.call 146 [(.t 4)]),
 oQ 2 (.mov (.t 5))])
 .ret)
 .skip)
 (.seq
 (.reg false [2] [oQ 6 (.mov (.t 0)),
 oX 7 (.call 147 [(.t 6)]),
 oQ 2 (.mov (.t 7))])
 .ret)))
theorem aRk:(Go.Proofs.Tryz.f119).body.bind (comp prog.P (1,(Go.Proofs.Tryz.f119).ntmps) aPu)=some aO5:=by kernel_rfl
theorem aRo:b6 prog.P (Go.Proofs.Tryz.f119).results.toList=true:=by kernel_rfl
def aO3:List (Nat×List Nat):=[(0,[0]),(1,[2])]
def aPd:MC :=
 (.seq
 (.reg false [0] [oQ 2 (.mov (kB false))])
 (.seq
 (.reg false [2] [oQ 3 (.mov (.t 0)),
 oQ 4 (.bin .geq (.t 3) (.k (.d (.int .u8 97)))),
 oQ 5 (.mov (.t 4)),
 oG 6 5 true (.mov (.t 0)),
 oG 7 5 true (.bin .leq (.t 6) (.k (.d (.int .u8 122)))),
 oQ 8 (.pick (.t 5) (.t 7) (kB false)),
 oQ 2 (.mov (.t 8))])
 .ret))
theorem aQg:(Go.Proofs.Tryz.f121).body.bind (comp prog.P (1,(Go.Proofs.Tryz.f121).ntmps) aO3)=some aPd:=by kernel_rfl
theorem aRU:b6 prog.P (Go.Proofs.Tryz.f121).results.toList=true:=by kernel_rfl
def aOy:List (Nat×List Nat):=[(0,[0,1]),(1,[0,1,7]),(2,[0,1,12]),(3,[0,1]),(4,[4])]
def aOF:MC :=
 (.seq
 (.reg false [0,1] [oQ 4 (.mov (.k (.d (.str []))))])
 (.seq
 (.block 0
 (.loop
 (.seq
 (.seq
 (.reg false [0,1,7] [oQ 5 (.mov (.t 0)),
 oQ 6 (.len true (.t 5)),
 oQ 7 (.bin .gtr (.t 6) (kI 0))])
 (.cond (.t 7)
 .skip
 (.exit 0)))
 (.block 1
 (.seq
 (.seq
 (.reg false [0,1,12] [oQ 8 (.mov (.t 1)),
 oQ 9 (.mov (.t 0)),
 oQ 10 (.ix (.t 9) (kI 0)),
 oX 11 (.call 148 [(.t 8),(.t 10)]),
 oQ 12 (.un .not (.t 11))])
 (.cond (.t 12)
 (.exit 0)
 .skip))
 (.reg false [0,1] [oQ 13 (.mov (.t 0)),
 oQ 14 (.sls (.t 13) (some (kI 1)) none),
 oQ 0 (.mov (.t 14))]))))))
 (.seq
 (.reg false [4] [oQ 15 (.mov (.t 0)),
 oQ 4 (.mov (.t 15))])
 .ret)))
theorem aRV:(Go.Proofs.Tryz.f125).body.bind (comp prog.P (0,(Go.Proofs.Tryz.f125).ntmps) aOy)=some aOF:=by kernel_rfl
theorem aSO:b6 prog.P (Go.Proofs.Tryz.f125).results.toList=true:=by kernel_rfl
def aOT:List (Nat×List Nat):=[(0,[0,1]),(1,[0,1,7]),(2,[0,1,15]),(3,[0,1]),(4,[4])]
def aN6:MC :=
 (.seq
 (.reg false [0,1] [oQ 4 (.mov (.k (.d (.str []))))])
 (.seq
 (.block 0
 (.loop
 (.seq
 (.seq
 (.reg false [0,1,7] [oQ 5 (.mov (.t 0)),
 oQ 6 (.len true (.t 5)),
 oQ 7 (.bin .gtr (.t 6) (kI 0))])
 (.cond (.t 7)
 .skip
 (.exit 0)))
 (.block 1
 (.seq
 (.seq
 (.reg false [0,1,15] [oQ 8 (.mov (.t 1)),
 oQ 9 (.mov (.t 0)),
 oQ 10 (.mov (.t 0)),
 oQ 11 (.len true (.t 10)),
 oQ 12 (.bin .sub (.t 11) (kI 1)),
 oQ 13 (.ix (.t 9) (.t 12)),
 oX 14 (.call 148 [(.t 8),(.t 13)]),
 oQ 15 (.un .not (.t 14))])
 (.cond (.t 15)
 (.exit 0)
 .skip))
 (.reg false [0,1] [oQ 16 (.mov (.t 0)),
 oQ 17 (.mov (.t 0)),
 oQ 18 (.len true (.t 17)),
 oQ 19 (.bin .sub (.t 18) (kI 1)),
 oQ 20 (.sls (.t 16) none (some (.t 19))),
 oQ 0 (.mov (.t 20))]))))))
 (.seq
 (.reg false [4] [oQ 21 (.mov (.t 0)),
 oQ 4 (.mov (.t 21))])
 .ret)))
theorem aSI:(Go.Proofs.Tryz.f126).body.bind (comp prog.P (0,(Go.Proofs.Tryz.f126).ntmps) aOT)=some aN6:=by kernel_rfl
theorem aQk:b6 prog.P (Go.Proofs.Tryz.f126).results.toList=true:=by kernel_rfl
def aPe:List (Nat×List Nat):=[(0,[0]),(1,[0,6]),(2,[2,3]),(3,[2,3])]
def aPv:MC :=
 (.seq
 (.reg false [0] [oQ 2 (.mov (kI 0)),
 oQ 3 (.mov (kB false))])
 (.seq
 (.seq
 (.reg false [0,6] [oQ 4 (.mov (.t 0)),
 oQ 5 (.len true (.t 4)),
 oQ 6 (.bin .gtr (.t 5) (kI 4000))])
 (.cond (.t 6)
 (.seq
 (.reg false [2,3] [oQ 2 (.mov (kI 0)),
 oQ 3 (.mov (kB false))])
 .ret)
 .skip))
 (.seq
 (.reg false [2,3] [oQ 7 (.mov (.t 0)),
 oX 8 (.call 152 [(.t 7)]),
 oQ 2 (.mov (.t 8)),
 oQ 3 (.mov (kB true))])
 .ret)))
theorem aQn:(Go.Proofs.Tryz.f129).body.bind (comp prog.P (1,(Go.Proofs.Tryz.f129).ntmps) aPe)=some aPv:=by kernel_rfl
theorem aSf:b6 prog.P (Go.Proofs.Tryz.f129).results.toList=true:=by kernel_rfl
def aN3:List (Nat×List Nat):=[(0,[0]),(1,[0,3]),(2,[0,3,4]),(3,[0,3,4,8]),(4,[0,3,4]),(5,[0,3,4]),(6,[2])]
def aOP:MC :=
 (.seq
 (.reg false [0] [oQ 2 (.mov (kI 0))])
 (.seq
 (.reg false [0,3] [oQ 3 (.mov (kI 7))])
 (.seq
 (.seq
 (.reg false [0,3,4] [oQ 4 (.mov (kI 0))])
 (.block 0
 (.loop
 (.seq
 (.seq
 (.reg false [0,3,4,8] [oQ 5 (.mov (.t 4)),
 oQ 6 (.mov (.t 0)),
 oQ 7 (.len true (.t 6)),
 oQ 8 (.bin .lss (.t 5) (.t 7))])
 (.cond (.t 8)
 .skip
 (.exit 0)))
 (.seq
 (.block 1
 (.reg false [0,3,4] [oQ 11 (.mov (.t 3)),
 oQ 12 (.bin .mul (kI 41) (.t 11)),
 oQ 13 (.mov (.t 0)),
 oQ 14 (.mov (.t 4)),
 oQ 15 (.ix (.t 13) (.t 14)),
 oQ 16 (.conv .i64 (.t 15)),
 oQ 17 (.bin .add (.t 12) (.t 16)),
 oQ 18 (.bin .add (.t 17) (kI 1)),
 oQ 19 (.bin .rem (.t 18) (kI 999979)),
 oQ 3 (.mov (.t 19))]))
 (.reg false [0,3,4] [oQ 9 (.mov (.t 4)),
 oQ 10 (.bin .add (.t 9) (kI 1)),
 oQ 4 (.mov (.t 10))]))))))
 (.seq
 (.reg false [2] [oQ 20 (.mov (.t 3)),
 oQ 2 (.mov (.t 20))])
 .ret))))
theorem aSQ:(Go.Proofs.Tryz.f131).body.bind (comp prog.P (1,(Go.Proofs.Tryz.f131).ntmps) aN3)=some aOP:=by kernel_rfl
theorem aRE:b6 prog.P (Go.Proofs.Tryz.f131).results.toList=true:=by kernel_rfl
def aPF:List (Nat×List Nat):=[(0,[0,1,2,6]),(1,[0,1,2,6,12]),(2,[0,1,2,6]),(3,[0,1,2,6,7]),(4,[0,1,2,6,7,30]),(5,[0,1,2,6,7]),(6,[0,1,2,6,7]),(1000006,[3,15,16,17,1,0,1,1,1,2,1,3,1,4,1,5,1,6,1,7,1,8,1,9,1,10,1,11,1,12,1,13,1,14,2,15,2,16,2,17,0])]
def aOx:MC :=
 (.seq
 (.reg false [0,1,2,6] [oQ 8 (.mov (.t 1)),
 oQ 9 (.bin .add (.t 8) (kI 1)),
 oQ 6 (.mov (.t 9))])
 (.block 0
 (.loop
 (.seq
 (.seq
 (.reg false [0,1,2,6,12] [oQ 10 (.mov (.t 6)),
 oQ 11 (.mov (.t 2)),
 oQ 12 (.bin .lss (.t 10) (.t 11))])
 (.cond (.t 12)
 .skip
 (.exit 0)))
 (.seq
 (.block 1
 (.seq
 (.reg false [0,1,2,6,7] [oQ 15 (.mov (.t 6)),
 oQ 7 (.mov (.t 15))])
 (.block 2
 (.loop
 (.seq
 (.seq
 (.reg true [0,1,2,6,7,30] [oQ 16 (.mov (.t 7)),
 oQ 17 (.mov (.t 1)),
 oQ 18 (.bin .gtr (.t 16) (.t 17)),
 oQ 19 (.mov (.t 18)),
 oG 20 19 true (.mov (.t 0)),
 oG 21 19 true (.mov (.t 7)),
 oG 22 19 true (.ia 1 (.t 20) (.t 21)),
 oG 23 19 true (.ld none (.t 22)),
 oG 24 19 true (.mov (.t 0)),
 oG 25 19 true (.mov (.t 7)),
 oG 26 19 true (.bin .sub (.t 25) (kI 1)),
 oG 27 19 true (.ia 1 (.t 24) (.t 26)),
 oG 28 19 true (.ld none (.t 27)),
 oG 29 19 true (.callP 143 [(.t 23),(.t 28)]),
 oQ 30 (.pick (.t 19) (.t 29) (kB false))])
 (.cond (.t 30)
 .skip
 (.exit 2)))
 (.seq
 (.block 3
 (.any [15,16,17] [0,1,2,6,7] (.q 0 (oQ 33 (.mov (.t 0))) (.q 1 (oQ 34 (.mov (.t 7))) (.q 2 (oQ 35 (.mov (.t 0))) (.q 3 (oQ 36 (.mov (.t 7))) (.q 4 (oQ 37 (.bin .sub (.t 36) (kI 1))) (.q 5 (oQ 38 (.mov (.t 0))) (.q 6 (oQ 39 (.mov (.t 7))) (.q 7 (oQ 40 (.bin .sub (.t 39) (kI 1))) (.q 8 (oQ 41 (.ia 1 (.t 38) (.t 40))) (.q 9 (oQ 42 (.ld none (.t 41))) (.q 10 (oQ 43 (.mov (.t 0))) (.q 11 (oQ 44 (.mov (.t 7))) (.q 12 (oQ 45 (.ia 1 (.t 43) (.t 44))) (.q 13 (oQ 46 (.ld none (.t 45))) (.q 14 (oQ 47 (.ia 1 (.t 33) (.t 34))) (.e 15 (oN (.st 1 (.t 47) (.t 42))) (.e 16 (oQ 48 (.ia 1 (.t 35) (.t 37))) (.e 17 (oN (.st 1 (.t 48) (.t 46))) .done))))))))))))))))))))
 (.reg false [0,1,2,6,7] [oQ 31 (.mov (.t 7)),
 oQ 32 (.bin .sub (.t 31) (kI 1)),
 oQ 7 (.mov (.t 32))])))))))
 (.reg false [0,1,2,6] [oQ 13 (.mov (.t 6)),
 oQ 14 (.bin .add (.t 13) (kI 1)),
 oQ 6 (.mov (.t 14))]))))))
theorem aRO:(Go.Proofs.Tryz.f137).body.bind (comp prog.P (3,(Go.Proofs.Tryz.f137).ntmps) aPF)=some aOx:=by kernel_rfl
theorem aQa:b6 prog.P (Go.Proofs.Tryz.f137).results.toList=true:=by kernel_rfl
def aPI:List (Nat×List Nat):=[(0,[0,1]),(1,[4])]
def aON:MC :=
 (.seq
 (.reg false [0,1] [oQ 4 (.mov (kB false))])
 (.seq
 (.reg false [4] [oQ 5 (.mov (.t 0)),
 oX 6 (.call 161 [(.t 5)]),
 oQ 7 (.mov (.t 6)),
 oG 8 7 true (.mov (.t 1)),
 oH 9 7 true (.call 161 [(.t 8)]),
 oG 10 7 true (.un .not (.t 9)),
 oQ 11 (.pick (.t 7) (.t 10) (kB false)),
 oQ 12 (.mov (.t 11)),
 oG 13 12 false (.mov (.t 0)),
 oG 14 12 false (.mov (.t 1)),
 oG 15 12 false (.bin .lss (.t 13) (.t 14)),
 oQ 16 (.pick (.t 12) (kB true) (.t 15)),
 oQ 4 (.mov (.t 16))])
 .ret))
theorem aSz:(Go.Proofs.Tryz.f143).body.bind (comp prog.P (2,(Go.Proofs.Tryz.f143).ntmps) aPI)=some aON:=by kernel_rfl
theorem aQY:b6 prog.P (Go.Proofs.Tryz.f143).results.toList=true:=by kernel_rfl
def aOQ:List (Nat×List Nat):=[(0,[0,2]),(1,[0,2,4]),(2,[0]),(3,[0,2]),(4,[0,2,8]),(5,[0,2]),(6,[0,2]),(7,[0,2,14]),(8,[0,2]),(9,[0,2]),(10,[2])]
def aPw:MC :=
 (.seq
 (.reg false [0,2] [oQ 2 (.mov (kI 0))])
 (.seq
 (.seq
 (.reg false [0,2,4] [oQ 3 (.mov (.t 0)),
 oQ 4 (.bin .geq (.t 3) (.k (.d (.int .u64 4294967296))))])
 (.cond (.t 4)
 (.seq
 (.reg false [0] [oQ 5 (.mov (.t 0)),
 oQ 6 (.shr (.t 5) (.k (.d (.int .u64 32)))),
 oQ 0 (.mov (.t 6))])
 (.reg false [0,2] [oQ 2 (.mov (kI 32))]))
 .skip))
 (.seq
 (.seq
 (.reg false [0,2,8] [oQ 7 (.mov (.t 0)),
 oQ 8 (.bin .geq (.t 7) (.k (.d (.int .u64 65536))))])
 (.cond (.t 8)
 (.seq
 (.reg false [0,2] [oQ 9 (.mov (.t 0)),
 oQ 10 (.shr (.t 9) (.k (.d (.int .u64 16)))),
 oQ 0 (.mov (.t 10))])
 (.reg false [0,2] [oQ 11 (.mov (.t 2)),
 oQ 12 (.bin .add (.t 11) (kI 16)),
 oQ 2 (.mov (.t 12))]))
 .skip))
 (.seq
 (.seq
 (.reg false [0,2,14] [oQ 13 (.mov (.t 0)),
 oQ 14 (.bin .geq (.t 13) (.k (.d (.int .u64 256))))])
 (.cond (.t 14)
 (.seq
 (.reg false [0,2] [oQ 15 (.mov (.t 0)),
 oQ 16 (.shr (.t 15) (.k (.d (.int .u64 8)))),
 oQ 0 (.mov (.t 16))])
 (.reg false [0,2] [oQ 17 (.mov (.t 2)),
 oQ 18 (.bin .add (.t 17) (kI 8)),
 oQ 2 (.mov (.t 18))]))
 .skip))
 (.seq
 (.reg false [2] [oQ 19 (.mov (.t 2)),
 oQ 20 (.mov (.t 0)),
 oQ 21 (.conv .u8 (.t 20)),
 oQ 22 (.ix (.k (.d (.str [0,1,2,2,3,3,3,3,4,4,4,4,4,4,4,4,5,5,5,5,5,5,5,5,5,5,5,5,5,5,5,5,6,6,6,6,6,6,6,6,6,6,6,6,6,6,6,6,6,6,6,6,6,6,6,6,6,6,6,6,6,6,6,6,7,7,7,7,7,7,7,7,7,7,7,7,7,7,7,7,7,7,7,7,7,7,7,7,7,7,7,7,7,7,7,7,7,7,7,7,7,7,7,7,7,7,7,7,7,7,7,7,7,7,7,7,7,7,7,7,7,7,7,7,7,7,7,7,8,8,8,8,8,8,8,8,8,8,8,8,8,8,8,8,8,8,8,8,8,8,8,8,8,8,8,8,8,8,8,8,8,8,8,8,8,8,8,8,8,8,8,8,8,8,8,8,8,8,8,8,8,8,8,8,8,8,8,8,8,8,8,8,8,8,8,8,8,8,8,8,8,8,8,8,8,8,8,8,8,8,8,8,8,8,8,8,8,8,8,8,8,8,8,8,8,8,8,8,8,8,8,8,8,8,8,8,8,8,8,8,8,8,8,8,8,8,8,8,8,8,8,8,8,8,8,8]))) (.t 21)),
 oQ 23 (.conv .i64 (.t 22)),
 oQ 24 (.bin .add (.t 19) (.t 23)),
 oQ 2 (.mov (.t 24))])
 .ret)))))
theorem aRA:(Go.Proofs.Tryz.f147).body.bind (comp prog.P (0,(Go.Proofs.Tryz.f147).ntmps) aOQ)=some aPw:=by kernel_rfl
theorem aRv:b6 prog.P (Go.Proofs.Tryz.f147).results.toList=true:=by kernel_rfl
def aOk:List (Nat×List Nat):=[(0,[0,1]),(1,[0,4])]
def aO7:MC :=
 (.seq
 (.reg false [0,1] [oQ 4 (.mov (kB false))])
 (.seq
 (.reg false [0,4] [oQ 5 (.mov (.t 0)),
 oQ 6 (.mov (.t 1)),
 oQ 7 (.nck (.t 5)),
 oQ 8 (.iar 256 1 (.t 7) (.t 6)),
 oQ 9 (.ld none (.t 8)),
 oQ 4 (.mov (.t 9))])
 .ret))
theorem aP4:(Go.Proofs.Tryz.f148).body.bind (comp prog.P (2,(Go.Proofs.Tryz.f148).ntmps) aOk)=some aO7:=by kernel_rfl
theorem aSg:b6 prog.P (Go.Proofs.Tryz.f148).results.toList=true:=by kernel_rfl
def aPt:List (Nat×List Nat):=[(0,[0]),(1,[0,3]),(2,[0,3,6,7]),(3,[0,3,6,7,8]),(4,[0,3,4,6,7]),(5,[0,3,6,7]),(6,[0,3,6,7]),(7,[2])]
def aN2:MC :=
 (.seq
 (.reg false [0] [oQ 2 (.mov (kI 0))])
 (.seq
 (.reg false [0,3] [oQ 3 (.mov (kI 7))])
 (.seq
 (.seq
 (.reg false [0,3,6,7] [oQ 5 (.mov (.t 0)),
 oQ 6 (.len true (.t 5)),
 oQ 7 (.mov (kI 0))])
 (.block 0
 (.loop
 (.seq
 (.reg false [0,3,6,7,8] [oQ 8 (.bin .lss (.t 7) (.t 6))])
 (.seq
 (.cond (.t 8)
 .skip
 (.exit 0))
 (.seq
 (.block 1
 (.seq
 (.reg false [0,3,4,6,7] [oQ 9 (.mov (.t 7)),
 oQ 4 (.mov (.t 9))])
 (.reg false [0,3,6,7] [oQ 10 (.mov (.t 3)),
 oQ 11 (.bin .mul (kI 41) (.t 10)),
 oQ 12 (.mov (.t 0)),
 oQ 13 (.mov (.t 4)),
 oQ 14 (.ix (.t 12) (.t 13)),
 oQ 15 (.conv .i64 (.t 14)),
 oQ 16 (.bin .add (.t 11) (.t 15)),
 oQ 17 (.bin .add (.t 16) (kI 1)),
 oQ 18 (.bin .rem (.t 17) (kI 999979)),
 oQ 3 (.mov (.t 18))])))
 (.reg false [0,3,6,7] [oQ 19 (.bin .add (.t 7) (kI 1)),
 oQ 7 (.mov (.t 19))])))))))
 (.seq
 (.reg false [2] [oQ 20 (.mov (.t 3)),
 oQ 2 (.mov (.t 20))])
 .ret))))
theorem aR1:(Go.Proofs.Tryz.f152).body.bind (comp prog.P (1,(Go.Proofs.Tryz.f152).ntmps) aPt)=some aN2:=by kernel_rfl
theorem aRK:b6 prog.P (Go.Proofs.Tryz.f152).results.toList=true:=by kernel_rfl
def aOO:List (Nat×List Nat):=[(0,[0]),(1,[2])]
def aOm:MC :=
 (.seq
 (.reg false [0] [oQ 2 (.mov (kB false))])
 (.seq
 (.reg false [2] [oQ 3 (.mov (.t 0)),
 oQ 4 (.mov (.t 0)),
 oQ 5 (.bin .neq (.t 3) (.t 4)),
 oQ 2 (.mov (.t 5))])
 .ret))
theorem aRd:(Go.Proofs.Tryz.f161).body.bind (comp prog.P (1,(Go.Proofs.Tryz.f161).ntmps) aOO)=some aOm:=by kernel_rfl
theorem aSh:b6 prog.P (Go.Proofs.Tryz.f161).results.toList=true:=by kernel_rfl
end Go.Pe.Tryz
