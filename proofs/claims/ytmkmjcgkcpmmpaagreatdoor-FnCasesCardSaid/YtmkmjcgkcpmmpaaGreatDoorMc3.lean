/-
The compact code of the functions that the law reaches,printed by gen.py,each with the proof that the machine's code is compiled to it.
-/
import Derived.Test.YtmkmjcgkcpmmpaaGreatDoorMc1
import Derived.Test.YtmkmjcgkcpmmpaaGreatDoorProg
import Derived.KernelRfl
set_option maxRecDepth 100000
namespace Go.Pe.Tryz
open Go.Pe
def aQZ:List (Nat×List Nat):=[(0,[2,3,4]),(1,[2,3,4,6,7]),(2,[2,3,4,6,7,8]),(3,[2,3,4,6,7,8,16]),(4,[4,6,7]),(5,[2,3,4,6,7,8,16,23]),(6,[2,3,4,6,7,30]),(7,[4,5]),(8,[4,6,7]),(9,[2,3,4,6,7,8,16,38]),(10,[2,3,4,6,7,45]),(11,[4,5]),(12,[4,6,7]),(13,[2,3,4,6,7,8,16,50]),(14,[3,4,6,7,8,60]),(15,[4,5]),(16,[4,6,7]),(17,[2,3,4,6,7,8,16,76]),(18,[4,6,7]),(19,[2,3,4,6,7,8,85]),(20,[2,3,4,6,7,8,96]),(21,[4,5]),(22,[4,6,7]),(23,[4,5]),(1000016,[1,14,1,0,1,1,1,2,1,3,1,4,1,5,1,6,1,7,1,8,1,9,1,10,2,11,1,12,1,13,2,14,0]),(1000022,[1,14,1,0,1,1,1,2,1,3,1,4,1,5,1,6,1,7,1,8,1,9,1,10,1,11,1,12,1,13,2,14,0]),(1000023,[2,6,7,1,1,1,2,3,2,0,2,3,2,4,1,5,2,6,2,7,0,2,3,3,2,0,2,4,1,5,2,6,2,7,0,2,4,1,5,2,0,2,6,2,7,0])]
def m42:MC :=
 (.seq
 (.reg false [2,3,4] [oX 2 (.box (.t 0)),
 oX 3 (.box (.t 1)),
 oX 4 (.alloc (.st (.cons (.int .i64 0) (.cons (.sl true 4 .nil) (.cons (.int .i64 0) (.cons (.int .i64 0) (.cons (.sl true 1 .nil) .nil))))))),
 oQ 5 (.mov (kB false))])
 (.seq
 (.reg false [2,3,4,6,7] [oQ 9 (.ldv 5 (.t 2)),
 oX 10 (.call 52 [(.t 9)]),
 oX 6 (.alloc (.st (.cons (.int .i64 0) (.cons (.sl true 4 .nil) (.cons (.int .i64 0) (.cons (.int .i64 0) (.cons (.sl true 1 .nil) .nil))))))),
 oN (.st 5 (.t 6) (.t 10)),
 oQ 7 (.mov (kB true))])
 (.seq
 (.reg false [2,3,4,6,7,8] [oQ 11 (.ldv 5 (.t 2)),
 oQ 12 (.fa 1 1 (.t 3)),
 oQ 13 (.ld none (.t 12)),
 oX 14 (.call 66 [(.t 11),(.t 13)]),
 oQ 8 (.mov (.t 14))])
 (.seq
 (.seq
 (.reg false [2,3,4,6,7,8,16] [oQ 15 (.fa 0 0 (.t 3)),
 oQ 16 (.ld none (.t 15))])
 (.block 0
 (.seq
 (.reg false [2,3,4,6,7,8,16,23] [oQ 24 (.bin .eql (.t 16) (kI 1)),
 oQ 23 (.mov (.t 24))])
 (.cond (.t 23)
 (.seq
 (.seq
 (.reg false [2,3,4,6,7,30] [oQ 25 (.fa 3 3 (.t 3)),
 oQ 26 (.ld none (.t 25)),
 oQ 27 (.fa 0 0 (.t 2)),
 oQ 28 (.ld none (.t 27)),
 oQ 29 (.bin .sub (kI 20000) (.t 28)),
 oQ 30 (.bin .gtr (.t 26) (.t 29))])
 (.cond (.t 30)
 (.seq
 (.reg false [4,5] [oQ 31 (.ldv 5 (.t 6)),
 oN (.st 5 (.t 4) (.t 31)),
 oQ 5 (.mov (kB false))])
 .ret)
 .skip))
 (.reg false [4,6,7] [oQ 32 (.fa 0 0 (.t 2)),
 oQ 33 (.ld none (.t 32)),
 oQ 34 (.fa 3 3 (.t 3)),
 oQ 35 (.ld none (.t 34)),
 oQ 36 (.bin .add (.t 33) (.t 35)),
 oQ 37 (.fa 0 0 (.t 6)),
 oN (.st 1 (.t 37) (.t 36))]))
 (.seq
 (.reg false [2,3,4,6,7,8,16,38] [oQ 39 (.bin .eql (.t 16) (kI 2)),
 oQ 38 (.mov (.t 39))])
 (.cond (.t 38)
 (.seq
 (.seq
 (.reg false [2,3,4,6,7,45] [oQ 40 (.fa 3 3 (.t 3)),
 oQ 41 (.ld none (.t 40)),
 oQ 42 (.fa 0 0 (.t 2)),
 oQ 43 (.ld none (.t 42)),
 oQ 44 (.bin .sub (kI 20000) (.t 43)),
 oQ 45 (.bin .gtr (.t 41) (.t 44))])
 (.cond (.t 45)
 (.seq
 (.reg false [4,5] [oQ 46 (.ldv 5 (.t 6)),
 oN (.st 5 (.t 4) (.t 46)),
 oQ 5 (.mov (kB false))])
 .ret)
 .skip))
 (.reg false [4,6,7] [oQ 47 (.ldv 5 (.t 2)),
 oQ 48 (.ld (some 4) (.t 3)),
 oX 49 (.call 76 [(.t 47),(.t 48)]),
 oN (.st 5 (.t 6) (.t 49))]))
 (.seq
 (.reg false [2,3,4,6,7,8,16,50] [oQ 51 (.bin .eql (.t 16) (kI 3)),
 oQ 50 (.mov (.t 51))])
 (.cond (.t 50)
 (.seq
 (.seq
 (.reg true [3,4,6,7,8,60] [oQ 52 (.fa 1 1 (.t 2)),
 oQ 53 (.ld none (.t 52)),
 oQ 54 (.mov (.t 8)),
 oQ 55 (.ia 4 (.t 53) (.t 54)),
 oQ 56 (.fa 3 3 (.t 55)),
 oQ 57 (.ld none (.t 56)),
 oQ 58 (.fa 3 3 (.t 3)),
 oQ 59 (.ld none (.t 58)),
 oQ 60 (.callP 61 [(.t 57),(.t 59)])])
 (.cond (.t 60)
 (.seq
 (.reg false [4,5] [oQ 61 (.ldv 5 (.t 6)),
 oN (.st 5 (.t 4) (.t 61)),
 oQ 5 (.mov (kB false))])
 .ret)
 .skip))
 (.any [14] [4,6,7] (.q 0 (oQ 62 (.fa 1 1 (.t 6))) (.q 1 (oQ 63 (.ld none (.t 62))) (.q 2 (oQ 64 (.mov (.t 8))) (.q 3 (oQ 65 (.fa 1 1 (.t 6))) (.q 4 (oQ 66 (.ld none (.t 65))) (.q 5 (oQ 67 (.mov (.t 8))) (.q 6 (oQ 68 (.ia 4 (.t 66) (.t 67))) (.q 7 (oQ 69 (.fa 3 3 (.t 68))) (.q 8 (oQ 70 (.ld none (.t 69))) (.q 9 (oQ 71 (.fa 3 3 (.t 3))) (.q 10 (oQ 72 (.ld none (.t 71))) (.e 11 (oX 73 (.call 77 [(.t 70),(.t 72)])) (.q 12 (oQ 74 (.ia 4 (.t 63) (.t 64))) (.q 13 (oQ 75 (.fa 3 3 (.t 74))) (.e 14 (oN (.st 1 (.t 75) (.t 73))) .done)))))))))))))))))
 (.seq
 (.reg false [2,3,4,6,7,8,16,76] [oQ 77 (.bin .eql (.t 16) (kI 4)),
 oQ 76 (.mov (.t 77))])
 (.cond (.t 76)
 (.reg false [4,6,7] [oQ 79 (.ldv 5 (.t 2)),
 oQ 80 (.fa 3 3 (.t 3)),
 oQ 81 (.ld none (.t 80)),
 oX 82 (.call 78 [(.t 79),(.t 81)]),
 oQ 78 (.mov (.t 82)),
 oQ 83 (.ext (.t 78) 0),
 oQ 84 (.ext (.t 78) 1),
 oN (.st 5 (.t 6) (.t 83)),
 oQ 7 (.mov (.t 84))])
 (.seq
 (.reg false [2,3,4,6,7,8,85] [oQ 86 (.bin .eql (.t 16) (kI 5)),
 oQ 85 (.mov (.t 86))])
 (.cond (.t 85)
 (.seq
 (.seq
 (.reg true [2,3,4,6,7,8,96] [oQ 87 (.fa 3 3 (.t 3)),
 oQ 88 (.ld none (.t 87)),
 oQ 89 (.fa 1 1 (.t 2)),
 oQ 90 (.ld none (.t 89)),
 oQ 91 (.mov (.t 8)),
 oQ 92 (.ia 4 (.t 90) (.t 91)),
 oQ 93 (.fa 2 2 (.t 92)),
 oQ 94 (.ld none (.t 93)),
 oQ 95 (.bin .sub (kI 20000) (.t 94)),
 oQ 96 (.bin .gtr (.t 88) (.t 95))])
 (.cond (.t 96)
 (.seq
 (.reg false [4,5] [oQ 97 (.ldv 5 (.t 6)),
 oN (.st 5 (.t 4) (.t 97)),
 oQ 5 (.mov (kB false))])
 .ret)
 .skip))
 (.any [14] [4,6,7] (.q 0 (oQ 98 (.fa 1 1 (.t 6))) (.q 1 (oQ 99 (.ld none (.t 98))) (.q 2 (oQ 100 (.mov (.t 8))) (.q 3 (oQ 101 (.fa 1 1 (.t 2))) (.q 4 (oQ 102 (.ld none (.t 101))) (.q 5 (oQ 103 (.mov (.t 8))) (.q 6 (oQ 104 (.ia 4 (.t 102) (.t 103))) (.q 7 (oQ 105 (.fa 2 2 (.t 104))) (.q 8 (oQ 106 (.ld none (.t 105))) (.q 9 (oQ 107 (.fa 3 3 (.t 3))) (.q 10 (oQ 108 (.ld none (.t 107))) (.q 11 (oQ 109 (.bin .add (.t 106) (.t 108))) (.q 12 (oQ 110 (.ia 4 (.t 99) (.t 100))) (.q 13 (oQ 111 (.fa 2 2 (.t 110))) (.e 14 (oN (.st 1 (.t 111) (.t 109))) .done)))))))))))))))))
 (.reg false [4,6,7] [oQ 18 (.ldv 5 (.t 2)),
 oQ 19 (.mov (.t 8)),
 oX 20 (.call 79 [(.t 18),(.t 19)]),
 oQ 17 (.mov (.t 20)),
 oQ 21 (.ext (.t 17) 0),
 oQ 22 (.ext (.t 17) 1),
 oN (.st 5 (.t 6) (.t 21)),
 oQ 7 (.mov (.t 22))])))))))))))))
 (.seq
 (.any [6,7] [4,5] (.q 1 (oQ 113 (.mov (.t 7))) (.q 2 (oQ 114 (.mov (.t 113))) (.br (.e 0 (oQ 112 (.ldv 5 (.t 6))) (.e 3 (oG 115 114 true (.ldv 5 (.t 6))) (.e 4 (oH 116 114 true (.call 40 [(.t 115)])) (.q 5 (oQ 117 (.pick (.t 114) (.t 116) (kB false))) (.e 6 (oN (.st 5 (.t 4) (.t 112))) (.e 7 (oQ 5 (.mov (.t 117))) .done))))))
 (.e 3 (oG 115 114 true (.ldv 5 (.t 6))) (.br (.e 0 (oQ 112 (.ldv 5 (.t 6))) (.e 4 (oH 116 114 true (.call 40 [(.t 115)])) (.q 5 (oQ 117 (.pick (.t 114) (.t 116) (kB false))) (.e 6 (oN (.st 5 (.t 4) (.t 112))) (.e 7 (oQ 5 (.mov (.t 117))) .done)))))
 (.e 4 (oH 116 114 true (.call 40 [(.t 115)])) (.q 5 (oQ 117 (.pick (.t 114) (.t 116) (kB false))) (.e 0 (oQ 112 (.ldv 5 (.t 6))) (.e 6 (oN (.st 5 (.t 4) (.t 112))) (.e 7 (oQ 5 (.mov (.t 117))) .done)))))))))))
 .ret)))))
theorem c42:(Go.Proofs.Tryz.f42).body.bind (comp prog.P (2,(Go.Proofs.Tryz.f42).ntmps) aQZ)=some m42:=by kernel_rfl
theorem r42:b6 prog.P (Go.Proofs.Tryz.f42).results.toList=true:=by kernel_rfl
def aRe:List (Nat×List Nat):=[(0,[0]),(1,[2])]
def m44:MC :=
 (.seq
 (.reg false [0] [oQ 2 (.mov (kB false))])
 (.seq
 (.reg false [2] [oQ 3 (.mov (.t 0)),
 oX 4 (.call 37 [(.t 3),(kI 0),(kI 20000)]),
 oQ 2 (.mov (.t 4))])
 .ret))
theorem c44:(Go.Proofs.Tryz.f44).body.bind (comp prog.P (1,(Go.Proofs.Tryz.f44).ntmps) aRe)=some m44:=by kernel_rfl
theorem r44:b6 prog.P (Go.Proofs.Tryz.f44).results.toList=true:=by kernel_rfl
def aRp:List (Nat×List Nat):=[(0,[0]),(1,[2])]
def m45:MC :=
 (.seq
 (.reg false [0] [oQ 2 (.mov (kB false))])
 (.seq
 (.reg false [2] [oQ 3 (.mov (.t 0)),
 oQ 4 (.len false (.t 3)),
 oX 5 (.call 37 [(.t 4),(kI 1),(kI 8)]),
 oQ 6 (.mov (.t 5)),
 oG 7 6 true (.mov (.t 0)),
 oH 8 6 true (.call 80 [(.t 7),(.k (.d (.clo 81 .nil)))]),
 oG 9 6 true (.un .not (.t 8)),
 oQ 10 (.pick (.t 6) (.t 9) (kB false)),
 oQ 2 (.mov (.t 10))])
 .ret))
theorem c45:(Go.Proofs.Tryz.f45).body.bind (comp prog.P (1,(Go.Proofs.Tryz.f45).ntmps) aRp)=some m45:=by kernel_rfl
theorem r45:b6 prog.P (Go.Proofs.Tryz.f45).results.toList=true:=by kernel_rfl
def aQW:List (Nat×List Nat):=[(0,[1]),(1,[2])]
def m46:MC :=
 (.seq
 (.reg false [1] [oX 1 (.box (.t 0)),
 oQ 2 (.mov (kB false))])
 (.seq
 (.reg false [2] [oQ 3 (.fa 0 0 (.t 1)),
 oQ 4 (.ld none (.t 3)),
 oX 5 (.call 83 [(.t 4)]),
 oQ 6 (.mov (.t 5)),
 oG 7 6 true (.fa 1 1 (.t 1)),
 oG 8 6 true (.ld none (.t 7)),
 oH 9 6 true (.call 84 [(.t 8)]),
 oQ 10 (.pick (.t 6) (.t 9) (kB false)),
 oQ 11 (.mov (.t 10)),
 oG 12 11 true (.fa 2 2 (.t 1)),
 oG 13 11 true (.ld none (.t 12)),
 oH 14 11 true (.call 44 [(.t 13)]),
 oQ 15 (.pick (.t 11) (.t 14) (kB false)),
 oQ 16 (.mov (.t 15)),
 oG 17 16 true (.fa 3 3 (.t 1)),
 oG 18 16 true (.ld none (.t 17)),
 oG 19 16 true (.len false (.t 18)),
 oG 20 16 true (.bin .leq (.t 19) (kI 5)),
 oQ 21 (.pick (.t 16) (.t 20) (kB false)),
 oQ 22 (.mov (.t 21)),
 oG 23 22 true (.fa 3 3 (.t 1)),
 oG 24 22 true (.ld none (.t 23)),
 oH 25 22 true (.call 85 [(.t 24)]),
 oQ 26 (.pick (.t 22) (.t 25) (kB false)),
 oQ 27 (.mov (.t 26)),
 oG 28 27 true (.fa 3 3 (.t 1)),
 oG 29 27 true (.ld none (.t 28)),
 oH 30 27 true (.call 86 [(.t 29),(.k (.d (.clo 87 .nil)))]),
 oG 31 27 true (.un .not (.t 30)),
 oQ 32 (.pick (.t 27) (.t 31) (kB false)),
 oQ 2 (.mov (.t 32))])
 .ret))
theorem c46:(Go.Proofs.Tryz.f46).body.bind (comp prog.P (1,(Go.Proofs.Tryz.f46).ntmps) aQW)=some m46:=by kernel_rfl
theorem r46:b6 prog.P (Go.Proofs.Tryz.f46).results.toList=true:=by kernel_rfl
def aQd:List (Nat×List Nat):=[(0,[1,2]),(1,[1,2,5]),(2,[1,5,9,10,11]),(3,[1,5,9,10,11,12]),(4,[1,5,7,9,10,11]),(5,[1,5,7,9,10,11,17]),(6,[1,5,9,10,11]),(7,[1,5,9,10,11]),(8,[4])]
def m47:MC :=
 (.seq
 (.reg false [1,2] [oX 2 (.box (.t 0)),
 oQ 4 (.mov (.k .nil))])
 (.seq
 (.reg false [1,2,5] [oQ 5 (.mov (.k .nil))])
 (.seq
 (.seq
 (.reg false [1,5,9,10,11] [oQ 8 (.fa 1 1 (.t 2)),
 oQ 9 (.ld none (.t 8)),
 oQ 10 (.len false (.t 9)),
 oQ 11 (.mov (kI 0))])
 (.block 0
 (.loop
 (.seq
 (.reg false [1,5,9,10,11,12] [oQ 12 (.bin .lss (.t 11) (.t 10))])
 (.seq
 (.cond (.t 12)
 .skip
 (.exit 0))
 (.seq
 (.block 1
 (.seq
 (.reg false [1,5,7,9,10,11] [oQ 13 (.ia 4 (.t 9) (.t 11)),
 oQ 14 (.ld (some 4) (.t 13)),
 oX 7 (.alloc (.st (.cons (.int .i64 0) (.cons (.int .i64 0) (.cons (.int .i64 0) (.cons (.sl true 1 .nil) .nil)))))),
 oN (.st 4 (.t 7) (.t 14))])
 (.seq
 (.reg false [1,5,7,9,10,11,17] [oQ 15 (.mov (.t 1)),
 oQ 16 (.ld (some 4) (.t 7)),
 oX 17 (.callW (.t 15) [(.t 16)])])
 (.cond (.t 17)
 (.reg false [1,5,9,10,11] [oQ 18 (.mov (.t 5)),
 oQ 19 (.fa 0 0 (.t 7)),
 oQ 20 (.ld none (.t 19)),
 oX 21 (.bs 1 1 (.int .i64 0) [(0,(.t 20))]),
 oX 22 (.app 1 8 (.t 18) (.t 21)),
 oQ 5 (.mov (.t 22))])
 .skip))))
 (.reg false [1,5,9,10,11] [oQ 23 (.bin .add (.t 11) (kI 1)),
 oQ 11 (.mov (.t 23))])))))))
 (.seq
 (.reg false [4] [oQ 24 (.mov (.t 5)),
 oQ 4 (.mov (.t 24))])
 .ret))))
theorem c47:(Go.Proofs.Tryz.f47).body.bind (comp prog.P (2,(Go.Proofs.Tryz.f47).ntmps) aQd)=some m47:=by kernel_rfl
theorem r47:b6 prog.P (Go.Proofs.Tryz.f47).results.toList=true:=by kernel_rfl
def aSy:List (Nat×List Nat):=[(0,[1,2]),(1,[3])]
def m48:MC :=
 (.seq
 (.reg false [1,2] [oX 2 (.box (.t 0)),
 oQ 3 (.mov (kB false))])
 (.seq
 (.reg false [3] [oQ 4 (.fa 2 2 (.t 2)),
 oQ 5 (.ld none (.t 4)),
 oQ 6 (.fa 0 0 (.t 1)),
 oQ 7 (.ld none (.t 6)),
 oQ 8 (.bin .leq (.t 5) (.t 7)),
 oQ 3 (.mov (.t 8))])
 .ret))
theorem c48:(Go.Proofs.Tryz.f48).body.bind (comp prog.P (2,(Go.Proofs.Tryz.f48).ntmps) aSy)=some m48:=by kernel_rfl
theorem r48:b6 prog.P (Go.Proofs.Tryz.f48).results.toList=true:=by kernel_rfl
theorem aRh:eU prog.P 48=true:=by kernel_rfl
def aR7:List (Nat×List Nat):=[(0,[1,2]),(1,[3])]
def m49:MC :=
 (.seq
 (.reg false [1,2] [oX 2 (.box (.t 0)),
 oQ 3 (.mov (kB false))])
 (.seq
 (.reg false [3] [oQ 4 (.fa 2 2 (.t 2)),
 oQ 5 (.ld none (.t 4)),
 oQ 6 (.fa 0 0 (.t 1)),
 oQ 7 (.ld none (.t 6)),
 oQ 8 (.bin .leq (.t 5) (.t 7)),
 oQ 9 (.mov (.t 8)),
 oG 10 9 true (.fa 1 1 (.t 2)),
 oG 11 9 true (.ld none (.t 10)),
 oG 12 9 true (.bin .eql (.t 11) (kI 3)),
 oQ 13 (.pick (.t 9) (.t 12) (kB false)),
 oQ 14 (.mov (.t 13)),
 oG 15 14 true (.fa 3 3 (.t 2)),
 oG 16 14 true (.ld none (.t 15)),
 oG 17 14 true (.len false (.t 16)),
 oG 18 14 true (.bin .gtr (.t 17) (kI 0)),
 oQ 19 (.pick (.t 14) (.t 18) (kB false)),
 oQ 3 (.mov (.t 19))])
 .ret))
theorem c49:(Go.Proofs.Tryz.f49).body.bind (comp prog.P (2,(Go.Proofs.Tryz.f49).ntmps) aR7)=some m49:=by kernel_rfl
theorem r49:b6 prog.P (Go.Proofs.Tryz.f49).results.toList=true:=by kernel_rfl
theorem aPX:eU prog.P 49=true:=by kernel_rfl
def aQh:List (Nat×List Nat):=[(0,[0,1]),(1,[0,1,7]),(2,[0,4]),(3,[0,1,5]),(4,[0,1,5,11]),(5,[0,1,5]),(6,[0,4])]
def m50:MC :=
 (.seq
 (.reg false [0,1] [oQ 4 (.mov (kI 0))])
 (.seq
 (.seq
 (.reg false [0,1,7] [oQ 6 (.mov (.t 1)),
 oQ 7 (.bin .leq (.t 6) (kI 1))])
 (.cond (.t 7)
 (.seq
 (.reg false [0,4] [oQ 4 (.mov (kI 0))])
 .ret)
 .skip))
 (.seq
 (.reg false [0,1,5] [oQ 8 (.mov (.t 0)),
 oX 9 (.call 88 [(.t 8)]),
 oQ 5 (.mov (.t 9))])
 (.seq
 (.seq
 (.reg false [0,1,5,11] [oQ 10 (.mov (.t 1)),
 oQ 11 (.bin .gtr (.t 10) (kI 200))])
 (.cond (.t 11)
 (.reg false [0,1,5] [oQ 12 (.mov (.t 5)),
 oQ 13 (.bin .mul (.t 12) (kI 256)),
 oQ 14 (.mov (.t 0)),
 oX 15 (.call 88 [(.t 14)]),
 oQ 16 (.bin .add (.t 13) (.t 15)),
 oQ 5 (.mov (.t 16))])
 .skip))
 (.seq
 (.reg false [0,4] [oQ 17 (.mov (.t 5)),
 oQ 18 (.mov (.t 1)),
 oQ 19 (.bin .rem (.t 17) (.t 18)),
 oQ 4 (.mov (.t 19))])
 .ret)))))
theorem c50:(Go.Proofs.Tryz.f50).body.bind (comp prog.P (2,(Go.Proofs.Tryz.f50).ntmps) aQh)=some m50:=by kernel_rfl
theorem r50:b6 prog.P (Go.Proofs.Tryz.f50).results.toList=true:=by kernel_rfl
def aQs:List (Nat×List Nat):=[(0,[0,1]),(1,[0,4])]
def m51:MC :=
 (.seq
 (.reg false [0,1] [oQ 4 (.mov (kB false))])
 (.seq
 (.reg false [0,4] [oQ 5 (.mov (.t 0)),
 oQ 6 (.mov (.t 1)),
 oX 7 (.call 50 [(.t 5),(.t 6)]),
 oQ 8 (.bin .eql (.t 7) (kI 0)),
 oQ 4 (.mov (.t 8))])
 .ret))
theorem c51:(Go.Proofs.Tryz.f51).body.bind (comp prog.P (2,(Go.Proofs.Tryz.f51).ntmps) aQs)=some m51:=by kernel_rfl
theorem r51:b6 prog.P (Go.Proofs.Tryz.f51).results.toList=true:=by kernel_rfl
def aR9:List (Nat×List Nat):=[(0,[1,2]),(1,[1,2,3]),(2,[1,2,3,4]),(3,[1,2,3,4,22]),(4,[1,2,3,4]),(5,[1,2,3,4,5]),(6,[1,2,3,4]),(7,[2]),(1000001,[1,13,1,0,1,1,1,3,1,4,1,5,1,6,1,8,1,9,3,2,2,3,2,7,3,2,10,3,2,11,2,12,2,13,0,2,12,2,11,2,13,0,2,12,2,10,2,11,2,13,0,2,12,2,7,2,10,2,11,2,13,0,3,2,7,3,2,2,3,2,10,3,2,11,2,12,2,13,0,2,12,2,11,2,13,0,2,12,2,10,2,11,2,13,0,3,2,10,3,2,2,3,2,11,2,12,2,13,0,2,12,2,11,2,13,0,2,12,2,2,2,11,2,13,0,2,12,3,2,2,2,10,2,11,2,13,0,2,10,2,2,2,11,2,13,0,2,12,3,2,2,2,7,2,10,2,11,2,13,0,2,7,3,2,2,2,10,2,11,2,13,0,2,10,2,2,2,11,2,13,0]),(1000006,[1,15,1,0,1,1,1,2,1,3,1,4,1,5,1,6,1,7,1,8,1,9,2,10,2,11,2,12,2,13,1,14,2,15,0])]
def m52:MC :=
 (.seq
 (.reg false [1,2] [oX 1 (.box (.t 0)),
 oX 2 (.alloc (.st (.cons (.int .i64 0) (.cons (.sl true 4 .nil) (.cons (.int .i64 0) (.cons (.int .i64 0) (.cons (.sl true 1 .nil) .nil)))))))])
 (.seq
 (.any [13] [1,2,3] (.q 0 (oQ 6 (.fa 0 0 (.t 1))) (.q 1 (oQ 7 (.ld none (.t 6))) (.q 3 (oQ 9 (.fa 2 2 (.t 1))) (.q 4 (oQ 10 (.ld none (.t 9))) (.q 5 (oQ 11 (.fa 3 3 (.t 1))) (.q 6 (oQ 12 (.ld none (.t 11))) (.q 8 (oQ 14 (.fa 4 4 (.t 1))) (.q 9 (oQ 15 (.ld none (.t 14))) (.br (.e 2 (oX 8 (.bs 4 0 (.st (.cons (.int .i64 0) (.cons (.int .i64 0) (.cons (.int .i64 0) (.cons (.sl true 1 .nil) .nil))))) [])) (.br (.e 7 (oX 13 (.bs 1 0 (.str []) [])) (.br (.e 10 (oX 16 (.app 1 16 (.t 13) (.t 15))) (.br (.e 11 (oX 17 (.bld (.cons (.int .i64 0) (.cons (.sl true 4 .nil) (.cons (.int .i64 0) (.cons (.int .i64 0) (.cons (.sl true 1 .nil) .nil))))) [(0,(.t 7)),(1,(.t 8)),(2,(.t 10)),(3,(.t 12)),(4,(.t 16))])) (.e 12 (oX 3 (.alloc (.st (.cons (.int .i64 0) (.cons (.sl true 4 .nil) (.cons (.int .i64 0) (.cons (.int .i64 0) (.cons (.sl true 1 .nil) .nil)))))))) (.e 13 (oN (.st 5 (.t 3) (.t 17))) .done)))
 (.e 12 (oX 3 (.alloc (.st (.cons (.int .i64 0) (.cons (.sl true 4 .nil) (.cons (.int .i64 0) (.cons (.int .i64 0) (.cons (.sl true 1 .nil) .nil)))))))) (.e 11 (oX 17 (.bld (.cons (.int .i64 0) (.cons (.sl true 4 .nil) (.cons (.int .i64 0) (.cons (.int .i64 0) (.cons (.sl true 1 .nil) .nil))))) [(0,(.t 7)),(1,(.t 8)),(2,(.t 10)),(3,(.t 12)),(4,(.t 16))])) (.e 13 (oN (.st 5 (.t 3) (.t 17))) .done)))))
 (.e 12 (oX 3 (.alloc (.st (.cons (.int .i64 0) (.cons (.sl true 4 .nil) (.cons (.int .i64 0) (.cons (.int .i64 0) (.cons (.sl true 1 .nil) .nil)))))))) (.e 10 (oX 16 (.app 1 16 (.t 13) (.t 15))) (.e 11 (oX 17 (.bld (.cons (.int .i64 0) (.cons (.sl true 4 .nil) (.cons (.int .i64 0) (.cons (.int .i64 0) (.cons (.sl true 1 .nil) .nil))))) [(0,(.t 7)),(1,(.t 8)),(2,(.t 10)),(3,(.t 12)),(4,(.t 16))])) (.e 13 (oN (.st 5 (.t 3) (.t 17))) .done))))))
 (.e 12 (oX 3 (.alloc (.st (.cons (.int .i64 0) (.cons (.sl true 4 .nil) (.cons (.int .i64 0) (.cons (.int .i64 0) (.cons (.sl true 1 .nil) .nil)))))))) (.e 7 (oX 13 (.bs 1 0 (.str []) [])) (.e 10 (oX 16 (.app 1 16 (.t 13) (.t 15))) (.e 11 (oX 17 (.bld (.cons (.int .i64 0) (.cons (.sl true 4 .nil) (.cons (.int .i64 0) (.cons (.int .i64 0) (.cons (.sl true 1 .nil) .nil))))) [(0,(.t 7)),(1,(.t 8)),(2,(.t 10)),(3,(.t 12)),(4,(.t 16))])) (.e 13 (oN (.st 5 (.t 3) (.t 17))) .done)))))))
 (.br (.e 7 (oX 13 (.bs 1 0 (.str []) [])) (.br (.e 2 (oX 8 (.bs 4 0 (.st (.cons (.int .i64 0) (.cons (.int .i64 0) (.cons (.int .i64 0) (.cons (.sl true 1 .nil) .nil))))) [])) (.br (.e 10 (oX 16 (.app 1 16 (.t 13) (.t 15))) (.br (.e 11 (oX 17 (.bld (.cons (.int .i64 0) (.cons (.sl true 4 .nil) (.cons (.int .i64 0) (.cons (.int .i64 0) (.cons (.sl true 1 .nil) .nil))))) [(0,(.t 7)),(1,(.t 8)),(2,(.t 10)),(3,(.t 12)),(4,(.t 16))])) (.e 12 (oX 3 (.alloc (.st (.cons (.int .i64 0) (.cons (.sl true 4 .nil) (.cons (.int .i64 0) (.cons (.int .i64 0) (.cons (.sl true 1 .nil) .nil)))))))) (.e 13 (oN (.st 5 (.t 3) (.t 17))) .done)))
 (.e 12 (oX 3 (.alloc (.st (.cons (.int .i64 0) (.cons (.sl true 4 .nil) (.cons (.int .i64 0) (.cons (.int .i64 0) (.cons (.sl true 1 .nil) .nil)))))))) (.e 11 (oX 17 (.bld (.cons (.int .i64 0) (.cons (.sl true 4 .nil) (.cons (.int .i64 0) (.cons (.int .i64 0) (.cons (.sl true 1 .nil) .nil))))) [(0,(.t 7)),(1,(.t 8)),(2,(.t 10)),(3,(.t 12)),(4,(.t 16))])) (.e 13 (oN (.st 5 (.t 3) (.t 17))) .done)))))
 (.e 12 (oX 3 (.alloc (.st (.cons (.int .i64 0) (.cons (.sl true 4 .nil) (.cons (.int .i64 0) (.cons (.int .i64 0) (.cons (.sl true 1 .nil) .nil)))))))) (.e 10 (oX 16 (.app 1 16 (.t 13) (.t 15))) (.e 11 (oX 17 (.bld (.cons (.int .i64 0) (.cons (.sl true 4 .nil) (.cons (.int .i64 0) (.cons (.int .i64 0) (.cons (.sl true 1 .nil) .nil))))) [(0,(.t 7)),(1,(.t 8)),(2,(.t 10)),(3,(.t 12)),(4,(.t 16))])) (.e 13 (oN (.st 5 (.t 3) (.t 17))) .done))))))
 (.br (.e 10 (oX 16 (.app 1 16 (.t 13) (.t 15))) (.br (.e 2 (oX 8 (.bs 4 0 (.st (.cons (.int .i64 0) (.cons (.int .i64 0) (.cons (.int .i64 0) (.cons (.sl true 1 .nil) .nil))))) [])) (.br (.e 11 (oX 17 (.bld (.cons (.int .i64 0) (.cons (.sl true 4 .nil) (.cons (.int .i64 0) (.cons (.int .i64 0) (.cons (.sl true 1 .nil) .nil))))) [(0,(.t 7)),(1,(.t 8)),(2,(.t 10)),(3,(.t 12)),(4,(.t 16))])) (.e 12 (oX 3 (.alloc (.st (.cons (.int .i64 0) (.cons (.sl true 4 .nil) (.cons (.int .i64 0) (.cons (.int .i64 0) (.cons (.sl true 1 .nil) .nil)))))))) (.e 13 (oN (.st 5 (.t 3) (.t 17))) .done)))
 (.e 12 (oX 3 (.alloc (.st (.cons (.int .i64 0) (.cons (.sl true 4 .nil) (.cons (.int .i64 0) (.cons (.int .i64 0) (.cons (.sl true 1 .nil) .nil)))))))) (.e 11 (oX 17 (.bld (.cons (.int .i64 0) (.cons (.sl true 4 .nil) (.cons (.int .i64 0) (.cons (.int .i64 0) (.cons (.sl true 1 .nil) .nil))))) [(0,(.t 7)),(1,(.t 8)),(2,(.t 10)),(3,(.t 12)),(4,(.t 16))])) (.e 13 (oN (.st 5 (.t 3) (.t 17))) .done)))))
 (.e 12 (oX 3 (.alloc (.st (.cons (.int .i64 0) (.cons (.sl true 4 .nil) (.cons (.int .i64 0) (.cons (.int .i64 0) (.cons (.sl true 1 .nil) .nil)))))))) (.e 2 (oX 8 (.bs 4 0 (.st (.cons (.int .i64 0) (.cons (.int .i64 0) (.cons (.int .i64 0) (.cons (.sl true 1 .nil) .nil))))) [])) (.e 11 (oX 17 (.bld (.cons (.int .i64 0) (.cons (.sl true 4 .nil) (.cons (.int .i64 0) (.cons (.int .i64 0) (.cons (.sl true 1 .nil) .nil))))) [(0,(.t 7)),(1,(.t 8)),(2,(.t 10)),(3,(.t 12)),(4,(.t 16))])) (.e 13 (oN (.st 5 (.t 3) (.t 17))) .done))))))
 (.e 12 (oX 3 (.alloc (.st (.cons (.int .i64 0) (.cons (.sl true 4 .nil) (.cons (.int .i64 0) (.cons (.int .i64 0) (.cons (.sl true 1 .nil) .nil)))))))) (.br (.e 2 (oX 8 (.bs 4 0 (.st (.cons (.int .i64 0) (.cons (.int .i64 0) (.cons (.int .i64 0) (.cons (.sl true 1 .nil) .nil))))) [])) (.e 10 (oX 16 (.app 1 16 (.t 13) (.t 15))) (.e 11 (oX 17 (.bld (.cons (.int .i64 0) (.cons (.sl true 4 .nil) (.cons (.int .i64 0) (.cons (.int .i64 0) (.cons (.sl true 1 .nil) .nil))))) [(0,(.t 7)),(1,(.t 8)),(2,(.t 10)),(3,(.t 12)),(4,(.t 16))])) (.e 13 (oN (.st 5 (.t 3) (.t 17))) .done))))
 (.e 10 (oX 16 (.app 1 16 (.t 13) (.t 15))) (.e 2 (oX 8 (.bs 4 0 (.st (.cons (.int .i64 0) (.cons (.int .i64 0) (.cons (.int .i64 0) (.cons (.sl true 1 .nil) .nil))))) [])) (.e 11 (oX 17 (.bld (.cons (.int .i64 0) (.cons (.sl true 4 .nil) (.cons (.int .i64 0) (.cons (.int .i64 0) (.cons (.sl true 1 .nil) .nil))))) [(0,(.t 7)),(1,(.t 8)),(2,(.t 10)),(3,(.t 12)),(4,(.t 16))])) (.e 13 (oN (.st 5 (.t 3) (.t 17))) .done)))))))))
 (.e 12 (oX 3 (.alloc (.st (.cons (.int .i64 0) (.cons (.sl true 4 .nil) (.cons (.int .i64 0) (.cons (.int .i64 0) (.cons (.sl true 1 .nil) .nil)))))))) (.br (.e 2 (oX 8 (.bs 4 0 (.st (.cons (.int .i64 0) (.cons (.int .i64 0) (.cons (.int .i64 0) (.cons (.sl true 1 .nil) .nil))))) [])) (.e 7 (oX 13 (.bs 1 0 (.str []) [])) (.e 10 (oX 16 (.app 1 16 (.t 13) (.t 15))) (.e 11 (oX 17 (.bld (.cons (.int .i64 0) (.cons (.sl true 4 .nil) (.cons (.int .i64 0) (.cons (.int .i64 0) (.cons (.sl true 1 .nil) .nil))))) [(0,(.t 7)),(1,(.t 8)),(2,(.t 10)),(3,(.t 12)),(4,(.t 16))])) (.e 13 (oN (.st 5 (.t 3) (.t 17))) .done)))))
 (.e 7 (oX 13 (.bs 1 0 (.str []) [])) (.br (.e 2 (oX 8 (.bs 4 0 (.st (.cons (.int .i64 0) (.cons (.int .i64 0) (.cons (.int .i64 0) (.cons (.sl true 1 .nil) .nil))))) [])) (.e 10 (oX 16 (.app 1 16 (.t 13) (.t 15))) (.e 11 (oX 17 (.bld (.cons (.int .i64 0) (.cons (.sl true 4 .nil) (.cons (.int .i64 0) (.cons (.int .i64 0) (.cons (.sl true 1 .nil) .nil))))) [(0,(.t 7)),(1,(.t 8)),(2,(.t 10)),(3,(.t 12)),(4,(.t 16))])) (.e 13 (oN (.st 5 (.t 3) (.t 17))) .done))))
 (.e 10 (oX 16 (.app 1 16 (.t 13) (.t 15))) (.e 2 (oX 8 (.bs 4 0 (.st (.cons (.int .i64 0) (.cons (.int .i64 0) (.cons (.int .i64 0) (.cons (.sl true 1 .nil) .nil))))) [])) (.e 11 (oX 17 (.bld (.cons (.int .i64 0) (.cons (.sl true 4 .nil) (.cons (.int .i64 0) (.cons (.int .i64 0) (.cons (.sl true 1 .nil) .nil))))) [(0,(.t 7)),(1,(.t 8)),(2,(.t 10)),(3,(.t 12)),(4,(.t 16))])) (.e 13 (oN (.st 5 (.t 3) (.t 17))) .done)))))))))))))))))))
 (.seq
 (.seq
 (.reg false [1,2,3,4] [oQ 4 (.mov (kI 0))])
 (.block 0
 (.loop
 (.seq
 (.seq
 (.reg false [1,2,3,4,22] [oQ 18 (.mov (.t 4)),
 oQ 19 (.fa 1 1 (.t 1)),
 oQ 20 (.ld none (.t 19)),
 oQ 21 (.len false (.t 20)),
 oQ 22 (.bin .lss (.t 18) (.t 21))])
 (.cond (.t 22)
 .skip
 (.exit 0)))
 (.seq
 (.block 1
 (.seq
 (.reg false [1,2,3,4,5] [oQ 25 (.fa 1 1 (.t 1)),
 oQ 26 (.ld none (.t 25)),
 oQ 27 (.mov (.t 4)),
 oQ 28 (.ia 4 (.t 26) (.t 27)),
 oQ 29 (.ld (some 4) (.t 28)),
 oX 5 (.alloc (.st (.cons (.int .i64 0) (.cons (.int .i64 0) (.cons (.int .i64 0) (.cons (.sl true 1 .nil) .nil)))))),
 oN (.st 4 (.t 5) (.t 29))])
 (.any [15] [1,2,3,4] (.q 0 (oQ 30 (.fa 1 1 (.t 3))) (.q 1 (oQ 31 (.ld none (.t 30))) (.q 2 (oQ 32 (.fa 0 0 (.t 5))) (.q 3 (oQ 33 (.ld none (.t 32))) (.q 4 (oQ 34 (.fa 1 1 (.t 5))) (.q 5 (oQ 35 (.ld none (.t 34))) (.q 6 (oQ 36 (.fa 2 2 (.t 5))) (.q 7 (oQ 37 (.ld none (.t 36))) (.q 8 (oQ 38 (.fa 3 3 (.t 5))) (.q 9 (oQ 39 (.ld none (.t 38))) (.e 10 (oX 40 (.call 89 [(.t 39)])) (.e 11 (oX 41 (.bld (.cons (.int .i64 0) (.cons (.int .i64 0) (.cons (.int .i64 0) (.cons (.sl true 1 .nil) .nil)))) [(0,(.t 33)),(1,(.t 35)),(2,(.t 37)),(3,(.t 40))])) (.e 12 (oX 42 (.bs 4 1 (.st (.cons (.int .i64 0) (.cons (.int .i64 0) (.cons (.int .i64 0) (.cons (.sl true 1 .nil) .nil))))) [(0,(.t 41))])) (.e 13 (oX 43 (.app 4 48 (.t 31) (.t 42))) (.q 14 (oQ 44 (.fa 1 1 (.t 3))) (.e 15 (oN (.st 1 (.t 44) (.t 43))) .done)))))))))))))))))))
 (.reg false [1,2,3,4] [oQ 23 (.mov (.t 4)),
 oQ 24 (.bin .add (.t 23) (kI 1)),
 oQ 4 (.mov (.t 24))]))))))
 (.seq
 (.reg false [2] [oQ 45 (.ldv 5 (.t 3)),
 oN (.st 5 (.t 2) (.t 45))])
 .ret))))
theorem c52:(Go.Proofs.Tryz.f52).body.bind (comp prog.P (1,(Go.Proofs.Tryz.f52).ntmps) aR9)=some m52:=by kernel_rfl
theorem r52:b6 prog.P (Go.Proofs.Tryz.f52).results.toList=true:=by kernel_rfl
def aRz:List (Nat×List Nat):=[(0,[0]),(1,[2])]
def m54:MC :=
 (.seq
 (.reg false [0] [oQ 2 (.mov (kB false))])
 (.seq
 (.reg false [2] [oQ 3 (.mov (.t 0)),
 oX 4 (.call 60 [(.t 3),(kI 0),(kI 20000)]),
 oQ 2 (.mov (.t 4))])
 .ret))
theorem c54:(Go.Proofs.Tryz.f54).body.bind (comp prog.P (1,(Go.Proofs.Tryz.f54).ntmps) aRz)=some m54:=by kernel_rfl
theorem r54:b6 prog.P (Go.Proofs.Tryz.f54).results.toList=true:=by kernel_rfl
def aP6:List (Nat×List Nat):=[(0,[0,2]),(1,[2,3]),(2,[2])]
def m55:MC :=
 (.seq
 (.reg false [0,2] [oX 2 (.alloc (.st (.cons (.int .i64 0) (.cons (.sl true 4 .nil) (.cons (.int .i64 0) (.cons (.int .i64 0) (.cons (.sl true 1 .nil) .nil)))))))])
 (.seq
 (.reg false [2,3] [oQ 4 (.mov (.t 0)),
 oX 5 (.bld (.cons (.sl true 1 .nil) (.cons (.int .i64 0) (.cons (.int .u64 0) .nil))) [(0,(.t 4))]),
 oX 6 (.box (.t 5)),
 oQ 3 (.mov (.t 6))])
 (.seq
 (.reg false [2] [oQ 7 (.mov (.t 3)),
 oX 8 (.call 35 [(.t 7)]),
 oN (.st 5 (.t 2) (.t 8))])
 .ret)))
theorem c55:(Go.Proofs.Tryz.f55).body.bind (comp prog.P (1,(Go.Proofs.Tryz.f55).ntmps) aP6)=some m55:=by kernel_rfl
theorem r55:b6 prog.P (Go.Proofs.Tryz.f55).results.toList=true:=by kernel_rfl
def aRb:List (Nat×List Nat):=[(0,[0,1]),(1,[0,4])]
def m56:MC :=
 (.seq
 (.reg false [0,1] [oQ 4 (.mov (kI 0))])
 (.seq
 (.reg false [0,4] [oQ 5 (.mov (.t 1)),
 oQ 6 (.mov (.t 0)),
 oQ 7 (.mov (.t 1)),
 oQ 8 (.len false (.t 7)),
 oX 9 (.call 50 [(.t 6),(.t 8)]),
 oQ 10 (.ia 1 (.t 5) (.t 9)),
 oQ 11 (.ld none (.t 10)),
 oQ 4 (.mov (.t 11))])
 .ret))
theorem c56:(Go.Proofs.Tryz.f56).body.bind (comp prog.P (2,(Go.Proofs.Tryz.f56).ntmps) aRb)=some m56:=by kernel_rfl
theorem r56:b6 prog.P (Go.Proofs.Tryz.f56).results.toList=true:=by kernel_rfl
def aSv:List (Nat×List Nat):=[(0,[0]),(1,[2])]
def m57:MC :=
 (.seq
 (.reg false [0] [oQ 2 (.mov (kB false))])
 (.seq
 (.reg false [2] [oQ 3 (.mov (.t 0)),
 oX 4 (.call 37 [(.t 3),(kI 1),(kI 9)]),
 oQ 2 (.mov (.t 4))])
 .ret))
theorem c57:(Go.Proofs.Tryz.f57).body.bind (comp prog.P (1,(Go.Proofs.Tryz.f57).ntmps) aSv)=some m57:=by kernel_rfl
theorem r57:b6 prog.P (Go.Proofs.Tryz.f57).results.toList=true:=by kernel_rfl
def aPZ:List (Nat×List Nat):=[(0,[1,2]),(1,[3])]
def m58:MC :=
 (.seq
 (.reg false [1,2] [oX 2 (.box (.t 0)),
 oQ 3 (.mov (kB false))])
 (.seq
 (.reg false [3] [oQ 4 (.fa 3 3 (.t 2)),
 oQ 5 (.ld none (.t 4)),
 oQ 6 (.ld none (.t 1)),
 oX 7 (.call 59 [(.t 5),(.t 6)]),
 oQ 3 (.mov (.t 7))])
 .ret))
theorem c58:(Go.Proofs.Tryz.f58).body.bind (comp prog.P (2,(Go.Proofs.Tryz.f58).ntmps) aPZ)=some m58:=by kernel_rfl
theorem r58:b6 prog.P (Go.Proofs.Tryz.f58).results.toList=true:=by kernel_rfl
theorem aQ9:eU prog.P 58=true:=by kernel_rfl
def aQN:List (Nat×List Nat):=[(0,[0,1]),(1,[4])]
def m59:MC :=
 (.seq
 (.reg false [0,1] [oQ 4 (.mov (kB false))])
 (.seq
 (.reg false [4] [oQ 5 (.mov (.t 0)),
 oQ 6 (.mov (.t 1)),
 oX 7 (.call 90 [(.t 5),(.t 6)]),
 oQ 8 (.bin .geq (.t 7) (kI 0)),
 oQ 4 (.mov (.t 8))])
 .ret))
theorem c59:(Go.Proofs.Tryz.f59).body.bind (comp prog.P (2,(Go.Proofs.Tryz.f59).ntmps) aQN)=some m59:=by kernel_rfl
theorem r59:b6 prog.P (Go.Proofs.Tryz.f59).results.toList=true:=by kernel_rfl
def aSC:List (Nat×List Nat):=[(0,[0,1,2]),(1,[6])]
def m60:MC :=
 (.seq
 (.reg false [0,1,2] [oQ 6 (.mov (kB false))])
 (.seq
 (.reg false [6] [oQ 7 (.mov (.t 0)),
 oQ 8 (.mov (.t 1)),
 oQ 9 (.bin .geq (.t 7) (.t 8)),
 oQ 10 (.mov (.t 9)),
 oG 11 10 true (.mov (.t 0)),
 oG 12 10 true (.mov (.t 2)),
 oG 13 10 true (.bin .leq (.t 11) (.t 12)),
 oQ 14 (.pick (.t 10) (.t 13) (kB false)),
 oQ 6 (.mov (.t 14))])
 .ret))
theorem c60:(Go.Proofs.Tryz.f60).body.bind (comp prog.P (3,(Go.Proofs.Tryz.f60).ntmps) aSC)=some m60:=by kernel_rfl
theorem r60:b6 prog.P (Go.Proofs.Tryz.f60).results.toList=true:=by kernel_rfl
def aRs:List (Nat×List Nat):=[(0,[0,1]),(1,[0,1,5]),(2,[0,1,5,9]),(3,[0,1,5]),(4,[0,1,5,17]),(5,[4]),(6,[4])]
def m61:MC :=
 (.seq
 (.reg false [0,1] [oQ 4 (.mov (kB false))])
 (.seq
 (.seq
 (.reg false [0,1,5] [oQ 5 (.mov (kI 0))])
 (.block 0
 (.loop
 (.seq
 (.seq
 (.reg false [0,1,5,9] [oQ 6 (.mov (.t 5)),
 oQ 7 (.mov (.t 0)),
 oQ 8 (.len false (.t 7)),
 oQ 9 (.bin .lss (.t 6) (.t 8))])
 (.cond (.t 9)
 .skip
 (.exit 0)))
 (.seq
 (.block 1
 (.seq
 (.reg false [0,1,5,17] [oQ 12 (.mov (.t 0)),
 oQ 13 (.mov (.t 5)),
 oQ 14 (.ia 1 (.t 12) (.t 13)),
 oQ 15 (.ld none (.t 14)),
 oQ 16 (.mov (.t 1)),
 oQ 17 (.bin .eql (.t 15) (.t 16))])
 (.cond (.t 17)
 (.seq
 (.reg false [4] [oQ 4 (.mov (kB true))])
 .ret)
 .skip)))
 (.reg false [0,1,5] [oQ 10 (.mov (.t 5)),
 oQ 11 (.bin .add (.t 10) (kI 1)),
 oQ 5 (.mov (.t 11))]))))))
 (.seq
 (.reg false [4] [oQ 4 (.mov (kB false))])
 .ret)))
theorem c61:(Go.Proofs.Tryz.f61).body.bind (comp prog.P (2,(Go.Proofs.Tryz.f61).ntmps) aRs)=some m61:=by kernel_rfl
theorem r61:b6 prog.P (Go.Proofs.Tryz.f61).results.toList=true:=by kernel_rfl
def aSD:List (Nat×List Nat):=[(0,[0]),(1,[0,7]),(2,[2,3]),(3,[4]),(4,[4,12]),(5,[4]),(6,[2,3])]
def m62:MC :=
 (.seq
 (.reg false [0] [oQ 2 (.mov (kI 0)),
 oQ 3 (.mov (kB false))])
 (.seq
 (.seq
 (.reg false [0,7] [oQ 5 (.mov (.t 0)),
 oX 6 (.call 45 [(.t 5)]),
 oQ 7 (.un .not (.t 6))])
 (.cond (.t 7)
 (.seq
 (.reg false [2,3] [oQ 2 (.mov (kI 0)),
 oQ 3 (.mov (kB false))])
 .ret)
 .skip))
 (.seq
 (.reg false [4] [oQ 8 (.mov (.t 0)),
 oX 9 (.call 91 [(.t 8)]),
 oQ 4 (.mov (.t 9))])
 (.seq
 (.block 0
 (.loop
 (.seq
 (.seq
 (.reg false [4,12] [oQ 10 (.mov (.t 4)),
 oQ 11 (.len false (.t 10)),
 oQ 12 (.bin .gtr (.t 11) (kI 1))])
 (.cond (.t 12)
 .skip
 (.exit 0)))
 (.block 1
 (.reg false [4] [oQ 13 (.mov (.t 4)),
 oX 14 (.call 92 [(.t 13)]),
 oQ 4 (.mov (.t 14))])))))
 (.seq
 (.reg false [2,3] [oQ 15 (.mov (.t 4)),
 oQ 16 (.ia 1 (.t 15) (kI 0)),
 oQ 17 (.ld none (.t 16)),
 oQ 2 (.mov (.t 17)),
 oQ 3 (.mov (kB true))])
 .ret)))))
theorem c62:(Go.Proofs.Tryz.f62).body.bind (comp prog.P (1,(Go.Proofs.Tryz.f62).ntmps) aSD)=some m62:=by kernel_rfl
theorem r62:b6 prog.P (Go.Proofs.Tryz.f62).results.toList=true:=by kernel_rfl
def aSJ:List (Nat×List Nat):=[(0,[0]),(1,[3]),(2,[3,8]),(3,[3]),(4,[2])]
def m63:MC :=
 (.seq
 (.reg false [0] [oQ 2 (.mov (kI 0))])
 (.seq
 (.reg false [3] [oQ 4 (.mov (.t 0)),
 oX 5 (.call 93 [(.t 4)]),
 oQ 3 (.mov (.t 5))])
 (.seq
 (.block 0
 (.loop
 (.seq
 (.seq
 (.reg false [3,8] [oQ 6 (.mov (.t 3)),
 oQ 7 (.len false (.t 6)),
 oQ 8 (.bin .gtr (.t 7) (kI 1))])
 (.cond (.t 8)
 .skip
 (.exit 0)))
 (.block 1
 (.reg false [3] [oQ 9 (.mov (.t 3)),
 oX 10 (.call 94 [(.t 9)]),
 oQ 3 (.mov (.t 10))])))))
 (.seq
 (.reg false [2] [oQ 11 (.mov (.t 3)),
 oQ 12 (.ia 1 (.t 11) (kI 0)),
 oQ 13 (.ld none (.t 12)),
 oQ 2 (.mov (.t 13))])
 .ret))))
theorem c63:(Go.Proofs.Tryz.f63).body.bind (comp prog.P (1,(Go.Proofs.Tryz.f63).ntmps) aSJ)=some m63:=by kernel_rfl
theorem r63:b6 prog.P (Go.Proofs.Tryz.f63).results.toList=true:=by kernel_rfl
def aP8:List (Nat×List Nat):=[(0,[2,3]),(1,[4])]
def m64:MC :=
 (.seq
 (.reg false [2,3] [oX 2 (.box (.t 0)),
 oX 3 (.box (.t 1)),
 oQ 4 (.mov (kI 0))])
 (.seq
 (.reg false [4] [oQ 5 (.fa 1 1 (.t 2)),
 oQ 6 (.ld none (.t 5)),
 oQ 7 (.clos 96 [(.t 3)]),
 oX 8 (.call 95 [(.t 6),(.t 7)]),
 oQ 4 (.mov (.t 8))])
 .ret))
theorem c64:(Go.Proofs.Tryz.f64).body.bind (comp prog.P (2,(Go.Proofs.Tryz.f64).ntmps) aP8)=some m64:=by kernel_rfl
theorem r64:b6 prog.P (Go.Proofs.Tryz.f64).results.toList=true:=by kernel_rfl
def aQE:List (Nat×List Nat):=[(0,[1]),(1,[1,3]),(2,[1,3,18]),(3,[3]),(4,[2]),(1000001,[0,1,1,1,2,1,3,1,7,1,8,3,2,0,1,4,1,5,1,6,2,9,1,10,1,11,0,2,9,2,0,1,4,1,5,1,6,1,10,1,11,0])]
def m65:MC :=
 (.seq
 (.reg false [1] [oX 1 (.box (.t 0)),
 oQ 2 (.mov (.k (.d (.str []))))])
 (.seq
 (.any [] [1,3] (.q 1 (oQ 5 (.fa 1 1 (.t 1))) (.q 2 (oQ 6 (.ld none (.t 5))) (.q 3 (oQ 7 (.bin .sub (.t 6) (kI 1))) (.q 7 (oQ 11 (.fa 2 2 (.t 1))) (.q 8 (oQ 12 (.ld none (.t 11))) (.br (.e 0 (oX 4 (.bs 1 3 (.str []) [(0,(.k (.d (.str [107,101,101,112])))),(1,(.k (.d (.str [116,114,97,110,115,102,101,114])))),(2,(.k (.d (.str [100,101,115,116,114,111,121]))))])) (.q 4 (oQ 8 (.ia 1 (.t 4) (.t 7))) (.q 5 (oQ 9 (.ld none (.t 8))) (.q 6 (oQ 10 (.bin .add (.t 9) (.k (.d (.str [32,100,117,101,32]))))) (.e 9 (oX 13 (.call 97 [(.t 12)])) (.q 10 (oQ 14 (.bin .add (.t 10) (.t 13))) (.q 11 (oQ 3 (.mov (.t 14))) .done)))))))
 (.e 9 (oX 13 (.call 97 [(.t 12)])) (.e 0 (oX 4 (.bs 1 3 (.str []) [(0,(.k (.d (.str [107,101,101,112])))),(1,(.k (.d (.str [116,114,97,110,115,102,101,114])))),(2,(.k (.d (.str [100,101,115,116,114,111,121]))))])) (.q 4 (oQ 8 (.ia 1 (.t 4) (.t 7))) (.q 5 (oQ 9 (.ld none (.t 8))) (.q 6 (oQ 10 (.bin .add (.t 9) (.k (.d (.str [32,100,117,101,32]))))) (.q 10 (oQ 14 (.bin .add (.t 10) (.t 13))) (.q 11 (oQ 3 (.mov (.t 14))) .done))))))))))))))
 (.seq
 (.seq
 (.reg false [1,3,18] [oQ 15 (.fa 3 3 (.t 1)),
 oQ 16 (.ld none (.t 15)),
 oQ 17 (.len false (.t 16)),
 oQ 18 (.bin .gtr (.t 17) (kI 0))])
 (.cond (.t 18)
 (.reg false [3] [oQ 19 (.mov (.t 3)),
 oQ 20 (.fa 3 3 (.t 1)),
 oQ 21 (.ld none (.t 20)),
 oX 22 (.call 98 [(.t 21),(.k (.d (.str [44])))]),
 oQ 23 (.bin .add (.k (.d (.str [32,104,101,108,100,32]))) (.t 22)),
 oQ 24 (.bin .add (.t 19) (.t 23)),
 oQ 3 (.mov (.t 24))])
 .skip))
 (.seq
 (.reg false [2] [oQ 25 (.mov (.t 3)),
 oQ 2 (.mov (.t 25))])
 .ret))))
theorem c65:(Go.Proofs.Tryz.f65).body.bind (comp prog.P (1,(Go.Proofs.Tryz.f65).ntmps) aQE)=some m65:=by kernel_rfl
theorem r65:b6 prog.P (Go.Proofs.Tryz.f65).results.toList=true:=by kernel_rfl
def aP5:List (Nat×List Nat):=[(0,[1,2]),(1,[1,2,5]),(2,[1,2,5,10]),(3,[1,2,5]),(4,[1,2,5,20]),(5,[4]),(6,[4])]
def m66:MC :=
 (.seq
 (.reg false [1,2] [oX 2 (.box (.t 0)),
 oQ 4 (.mov (kI 0))])
 (.seq
 (.seq
 (.reg false [1,2,5] [oQ 5 (.mov (kI 0))])
 (.block 0
 (.loop
 (.seq
 (.seq
 (.reg false [1,2,5,10] [oQ 6 (.mov (.t 5)),
 oQ 7 (.fa 1 1 (.t 2)),
 oQ 8 (.ld none (.t 7)),
 oQ 9 (.len false (.t 8)),
 oQ 10 (.bin .lss (.t 6) (.t 9))])
 (.cond (.t 10)
 .skip
 (.exit 0)))
 (.seq
 (.block 1
 (.seq
 (.reg false [1,2,5,20] [oQ 13 (.fa 1 1 (.t 2)),
 oQ 14 (.ld none (.t 13)),
 oQ 15 (.mov (.t 5)),
 oQ 16 (.ia 4 (.t 14) (.t 15)),
 oQ 17 (.fa 0 0 (.t 16)),
 oQ 18 (.ld none (.t 17)),
 oQ 19 (.mov (.t 1)),
 oQ 20 (.bin .eql (.t 18) (.t 19))])
 (.cond (.t 20)
 (.seq
 (.reg false [4] [oQ 21 (.mov (.t 5)),
 oQ 4 (.mov (.t 21))])
 .ret)
 .skip)))
 (.reg false [1,2,5] [oQ 11 (.mov (.t 5)),
 oQ 12 (.bin .add (.t 11) (kI 1)),
 oQ 5 (.mov (.t 12))]))))))
 (.seq
 (.reg false [4] [oQ 4 (.mov (.k (.d (.int .i64 (-1)))))])
 .ret)))
theorem c66:(Go.Proofs.Tryz.f66).body.bind (comp prog.P (2,(Go.Proofs.Tryz.f66).ntmps) aP5)=some m66:=by kernel_rfl
theorem r66:b6 prog.P (Go.Proofs.Tryz.f66).results.toList=true:=by kernel_rfl
def aRc:List (Nat×List Nat):=[(0,[1]),(1,[1,3]),(2,[1,3,4]),(3,[1,3,4,19]),(4,[1,3,4]),(5,[1,3,4,23]),(6,[1,3,4]),(7,[1,3,4]),(8,[1,3,4]),(9,[2]),(1000001,[0,1,1,1,2,1,6,1,7,3,2,0,1,3,1,4,1,5,2,8,1,9,1,10,0,2,8,2,0,1,3,1,4,1,5,1,9,1,10,0])]
def m67:MC :=
 (.seq
 (.reg false [1] [oX 1 (.box (.t 0)),
 oQ 2 (.mov (.k (.d (.str []))))])
 (.seq
 (.any [] [1,3] (.q 1 (oQ 6 (.fa 1 1 (.t 1))) (.q 2 (oQ 7 (.ld none (.t 6))) (.q 6 (oQ 11 (.fa 2 2 (.t 1))) (.q 7 (oQ 12 (.ld none (.t 11))) (.br (.e 0 (oX 5 (.bs 1 4 (.str []) [(0,(.k (.d (.str [])))),(1,(.k (.d (.str [107,101,101,112])))),(2,(.k (.d (.str [116,114,97,110,115,102,101,114])))),(3,(.k (.d (.str [100,101,115,116,114,111,121]))))])) (.q 3 (oQ 8 (.ia 1 (.t 5) (.t 7))) (.q 4 (oQ 9 (.ld none (.t 8))) (.q 5 (oQ 10 (.bin .add (.t 9) (.k (.d (.str [32,100,117,101,32]))))) (.e 8 (oX 13 (.call 99 [(.t 12)])) (.q 9 (oQ 14 (.bin .add (.t 10) (.t 13))) (.q 10 (oQ 3 (.mov (.t 14))) .done)))))))
 (.e 8 (oX 13 (.call 99 [(.t 12)])) (.e 0 (oX 5 (.bs 1 4 (.str []) [(0,(.k (.d (.str [])))),(1,(.k (.d (.str [107,101,101,112])))),(2,(.k (.d (.str [116,114,97,110,115,102,101,114])))),(3,(.k (.d (.str [100,101,115,116,114,111,121]))))])) (.q 3 (oQ 8 (.ia 1 (.t 5) (.t 7))) (.q 4 (oQ 9 (.ld none (.t 8))) (.q 5 (oQ 10 (.bin .add (.t 9) (.k (.d (.str [32,100,117,101,32]))))) (.q 9 (oQ 14 (.bin .add (.t 10) (.t 13))) (.q 10 (oQ 3 (.mov (.t 14))) .done)))))))))))))
 (.seq
 (.seq
 (.reg false [1,3,4] [oQ 4 (.mov (kI 0))])
 (.block 0
 (.loop
 (.seq
 (.seq
 (.reg false [1,3,4,19] [oQ 15 (.mov (.t 4)),
 oQ 16 (.fa 3 3 (.t 1)),
 oQ 17 (.ld none (.t 16)),
 oQ 18 (.len false (.t 17)),
 oQ 19 (.bin .lss (.t 15) (.t 18))])
 (.cond (.t 19)
 .skip
 (.exit 0)))
 (.seq
 (.block 1
 (.seq
 (.seq
 (.reg false [1,3,4,23] [oQ 22 (.mov (.t 4)),
 oQ 23 (.bin .eql (.t 22) (kI 0))])
 (.cond (.t 23)
 (.reg false [1,3,4] [oQ 24 (.mov (.t 3)),
 oQ 25 (.bin .add (.t 24) (.k (.d (.str [32,104,101,108,100,32])))),
 oQ 3 (.mov (.t 25))])
 (.reg false [1,3,4] [oQ 26 (.mov (.t 3)),
 oQ 27 (.bin .add (.t 26) (.k (.d (.str [44])))),
 oQ 3 (.mov (.t 27))])))
 (.reg false [1,3,4] [oQ 28 (.mov (.t 3)),
 oQ 29 (.fa 3 3 (.t 1)),
 oQ 30 (.ld none (.t 29)),
 oQ 31 (.mov (.t 4)),
 oQ 32 (.ia 1 (.t 30) (.t 31)),
 oQ 33 (.ld none (.t 32)),
 oX 34 (.call 99 [(.t 33)]),
 oQ 35 (.bin .add (.t 28) (.t 34)),
 oQ 3 (.mov (.t 35))])))
 (.reg false [1,3,4] [oQ 20 (.mov (.t 4)),
 oQ 21 (.bin .add (.t 20) (kI 1)),
 oQ 4 (.mov (.t 21))]))))))
 (.seq
 (.reg false [2] [oQ 36 (.mov (.t 3)),
 oQ 2 (.mov (.t 36))])
 .ret))))
theorem c67:(Go.Proofs.Tryz.f67).body.bind (comp prog.P (1,(Go.Proofs.Tryz.f67).ntmps) aRc)=some m67:=by kernel_rfl
theorem r67:b6 prog.P (Go.Proofs.Tryz.f67).results.toList=true:=by kernel_rfl
def aR0:List (Nat×List Nat):=[(0,[0]),(1,[0,4]),(2,[2]),(3,[2])]
def m68:MC :=
 (.seq
 (.reg false [0] [oQ 2 (.mov (.k .nil))])
 (.seq
 (.seq
 (.reg false [0,4] [oQ 3 (.mov (.t 0)),
 oX 4 (.snil false (.t 3))])
 (.cond (.t 4)
 (.seq
 (.reg false [2] [oQ 2 (.mov (.k .nil))])
 .ret)
 .skip))
 (.seq
 (.reg false [2] [oX 5 (.bs 4 0 (.st (.cons (.int .i64 0) (.cons (.int .i64 0) (.cons (.int .i64 0) (.cons (.sl true 1 .nil) .nil))))) []),
 oQ 6 (.mov (.t 0)),
 oX 7 (.app 4 48 (.t 5) (.t 6)),
 oQ 2 (.mov (.t 7))])
 .ret)))
theorem c68:(Go.Proofs.Tryz.f68).body.bind (comp prog.P (1,(Go.Proofs.Tryz.f68).ntmps) aR0)=some m68:=by kernel_rfl
theorem r68:b6 prog.P (Go.Proofs.Tryz.f68).results.toList=true:=by kernel_rfl
def aRL:List (Nat×List Nat):=[(0,[0]),(1,[0,4]),(2,[2]),(3,[2])]
def m69:MC :=
 (.seq
 (.reg false [0] [oQ 2 (.mov (.k .nil))])
 (.seq
 (.seq
 (.reg false [0,4] [oQ 3 (.mov (.t 0)),
 oX 4 (.snil false (.t 3))])
 (.cond (.t 4)
 (.seq
 (.reg false [2] [oQ 2 (.mov (.k .nil))])
 .ret)
 .skip))
 (.seq
 (.reg false [2] [oX 5 (.bs 1 0 (.int .i64 0) []),
 oQ 6 (.mov (.t 0)),
 oX 7 (.app 1 8 (.t 5) (.t 6)),
 oQ 2 (.mov (.t 7))])
 .ret)))
theorem c69:(Go.Proofs.Tryz.f69).body.bind (comp prog.P (1,(Go.Proofs.Tryz.f69).ntmps) aRL)=some m69:=by kernel_rfl
theorem r69:b6 prog.P (Go.Proofs.Tryz.f69).results.toList=true:=by kernel_rfl
def aQS:List (Nat×List Nat):=[(0,[0]),(1,[0,4]),(2,[2]),(3,[2])]
def m70:MC :=
 (.seq
 (.reg false [0] [oQ 2 (.mov (.k .nil))])
 (.seq
 (.seq
 (.reg false [0,4] [oQ 3 (.mov (.t 0)),
 oX 4 (.snil false (.t 3))])
 (.cond (.t 4)
 (.seq
 (.reg false [2] [oQ 2 (.mov (.k .nil))])
 .ret)
 .skip))
 (.seq
 (.reg false [2] [oX 5 (.bs 1 0 (.str []) []),
 oQ 6 (.mov (.t 0)),
 oX 7 (.app 1 16 (.t 5) (.t 6)),
 oQ 2 (.mov (.t 7))])
 .ret)))
theorem c70:(Go.Proofs.Tryz.f70).body.bind (comp prog.P (1,(Go.Proofs.Tryz.f70).ntmps) aQS)=some m70:=by kernel_rfl
theorem r70:b6 prog.P (Go.Proofs.Tryz.f70).results.toList=true:=by kernel_rfl
def aQy:List (Nat×List Nat):=[(0,[0,1]),(1,[0,1,5]),(2,[0,1,5,12,13]),(3,[0,1,5,12,13,14]),(4,[0,1,5,6,12,13]),(5,[0,1,5,6,7,12,13]),(6,[0,1,5,6,7,12,13,27]),(7,[0,1,12,13]),(8,[0,1,5,12,13]),(9,[0,1,5,12,13]),(10,[0,4]),(1000007,[1,19,1,0,1,1,1,2,1,3,1,4,1,5,1,6,1,7,1,8,1,9,1,10,1,11,1,12,1,13,1,14,1,15,2,16,1,17,1,18,2,19,0])]
def m72:MC :=
 (.seq
 (.reg false [0,1] [oQ 4 (.mov (kB false))])
 (.seq
 (.reg false [0,1,5] [oQ 5 (.mov (kB false))])
 (.seq
 (.seq
 (.reg false [0,1,5,12,13] [oQ 8 (.mov (.t 0)),
 oQ 9 (.nck (.t 8)),
 oQ 10 (.fa 1 1 (.t 9)),
 oQ 11 (.ld none (.t 10)),
 oQ 12 (.len false (.t 11)),
 oQ 13 (.mov (kI 0))])
 (.block 0
 (.loop
 (.seq
 (.reg false [0,1,5,12,13,14] [oQ 14 (.bin .lss (.t 13) (.t 12))])
 (.seq
 (.cond (.t 14)
 .skip
 (.exit 0))
 (.seq
 (.block 1
 (.seq
 (.reg false [0,1,5,6,12,13] [oQ 15 (.mov (.t 13)),
 oQ 6 (.mov (.t 15))])
 (.seq
 (.reg false [0,1,5,6,7,12,13] [oQ 16 (.mov (.t 0)),
 oQ 17 (.nck (.t 16)),
 oQ 18 (.fa 1 1 (.t 17)),
 oQ 19 (.ld none (.t 18)),
 oQ 20 (.mov (.t 6)),
 oQ 21 (.ia 4 (.t 19) (.t 20)),
 oQ 22 (.fa 3 3 (.t 21)),
 oQ 23 (.ld none (.t 22)),
 oQ 24 (.mov (.t 1)),
 oX 25 (.call 90 [(.t 23),(.t 24)]),
 oQ 7 (.mov (.t 25))])
 (.seq
 (.reg false [0,1,5,6,7,12,13,27] [oQ 26 (.mov (.t 7)),
 oQ 27 (.bin .geq (.t 26) (kI 0))])
 (.cond (.t 27)
 (.seq
 (.any [19] [0,1,12,13] (.q 0 (oQ 28 (.mov (.t 0))) (.q 1 (oQ 29 (.nck (.t 28))) (.q 2 (oQ 30 (.fa 1 1 (.t 29))) (.q 3 (oQ 31 (.ld none (.t 30))) (.q 4 (oQ 32 (.mov (.t 6))) (.q 5 (oQ 33 (.mov (.t 0))) (.q 6 (oQ 34 (.nck (.t 33))) (.q 7 (oQ 35 (.fa 1 1 (.t 34))) (.q 8 (oQ 36 (.ld none (.t 35))) (.q 9 (oQ 37 (.mov (.t 6))) (.q 10 (oQ 38 (.ia 4 (.t 36) (.t 37))) (.q 11 (oQ 39 (.fa 3 3 (.t 38))) (.q 12 (oQ 40 (.ld none (.t 39))) (.q 13 (oQ 41 (.mov (.t 7))) (.q 14 (oQ 42 (.mov (.t 7))) (.q 15 (oQ 43 (.bin .add (.t 42) (kI 1))) (.e 16 (oX 44 (.call 102 [(.t 40),(.t 41),(.t 43)])) (.q 17 (oQ 45 (.ia 4 (.t 31) (.t 32))) (.q 18 (oQ 46 (.fa 3 3 (.t 45))) (.e 19 (oN (.st 1 (.t 46) (.t 44))) .done)))))))))))))))))))))
 (.reg false [0,1,5,12,13] [oQ 5 (.mov (kB true))]))
 .skip)))))
 (.reg false [0,1,5,12,13] [oQ 47 (.bin .add (.t 13) (kI 1)),
 oQ 13 (.mov (.t 47))])))))))
 (.seq
 (.reg false [0,4] [oQ 48 (.mov (.t 5)),
 oQ 4 (.mov (.t 48))])
 .ret))))
theorem c72:(Go.Proofs.Tryz.f72).body.bind (comp prog.P (2,(Go.Proofs.Tryz.f72).ntmps) aQy)=some m72:=by kernel_rfl
theorem r72:b6 prog.P (Go.Proofs.Tryz.f72).results.toList=true:=by kernel_rfl
def aQ3:List (Nat×List Nat):=[(0,[0,1,5]),(1,[0,1,5,7]),(2,[0,1,5,7,15]),(3,[0,1,5,7,15,16]),(4,[0,5,7,24]),(5,[0,6]),(6,[0,7]),(7,[0]),(8,[0,6]),(9,[0,1,5,7,15,41]),(10,[0,5]),(11,[0,6]),(12,[0,1,5,55]),(13,[0,6]),(14,[0,6]),(1000006,[1,11,1,0,1,1,1,2,1,3,1,4,1,5,1,6,2,7,2,8,1,9,1,10,2,11,0]),(1000010,[1,9,1,0,1,1,1,2,1,3,1,4,1,5,1,6,1,7,1,8,2,9,0])]
def m73:MC :=
 (.seq
 (.reg false [0,1,5] [oX 5 (.box (.t 2)),
 oQ 6 (.mov (kB false))])
 (.seq
 (.reg false [0,1,5,7] [oQ 8 (.mov (.t 0)),
 oQ 9 (.nck (.t 8)),
 oQ 10 (.fa 1 1 (.t 9)),
 oQ 11 (.ld none (.t 10)),
 oQ 12 (.mov (.t 1)),
 oQ 13 (.ia 4 (.t 11) (.t 12)),
 oQ 7 (.mov (.t 13))])
 (.seq
 (.seq
 (.reg false [0,1,5,7,15] [oQ 14 (.fa 0 0 (.t 5)),
 oQ 15 (.ld none (.t 14))])
 (.block 0
 (.seq
 (.reg false [0,1,5,7,15,16] [oQ 17 (.bin .eql (.t 15) (kI 3)),
 oQ 16 (.mov (.t 17))])
 (.cond (.t 16)
 (.seq
 (.seq
 (.reg true [0,5,7,24] [oQ 18 (.mov (.t 7)),
 oQ 19 (.nck (.t 18)),
 oQ 20 (.fa 3 3 (.t 19)),
 oQ 21 (.ld none (.t 20)),
 oQ 22 (.fa 3 3 (.t 5)),
 oQ 23 (.ld none (.t 22)),
 oQ 24 (.callP 59 [(.t 21),(.t 23)])])
 (.cond (.t 24)
 (.seq
 (.reg false [0,6] [oQ 6 (.mov (kB false))])
 .ret)
 .skip))
 (.seq
 (.any [11] [0,7] (.q 0 (oQ 25 (.mov (.t 7))) (.q 1 (oQ 26 (.mov (.t 7))) (.q 2 (oQ 27 (.nck (.t 26))) (.q 3 (oQ 28 (.fa 3 3 (.t 27))) (.q 4 (oQ 29 (.ld none (.t 28))) (.q 5 (oQ 30 (.fa 3 3 (.t 5))) (.q 6 (oQ 31 (.ld none (.t 30))) (.e 7 (oX 32 (.bs 1 1 (.int .i64 0) [(0,(.t 31))])) (.e 8 (oX 33 (.app 1 8 (.t 29) (.t 32))) (.q 9 (oQ 34 (.nck (.t 25))) (.q 10 (oQ 35 (.fa 3 3 (.t 34))) (.e 11 (oN (.st 1 (.t 35) (.t 33))) .done)))))))))))))
 (.seq
 (.reg false [0] [oQ 36 (.mov (.t 7)),
 oQ 37 (.nck (.t 36)),
 oQ 38 (.fa 3 3 (.t 37)),
 oQ 39 (.ld none (.t 38)),
 oX 40 (.call 103 [(.t 39)])])
 (.seq
 (.reg false [0,6] [oQ 6 (.mov (kB true))])
 .ret))))
 (.seq
 (.reg false [0,1,5,7,15,41] [oQ 42 (.bin .eql (.t 15) (kI 5)),
 oQ 41 (.mov (.t 42))])
 (.cond (.t 41)
 (.seq
 (.any [9] [0,5] (.q 0 (oQ 43 (.mov (.t 7))) (.q 1 (oQ 44 (.nck (.t 43))) (.q 2 (oQ 45 (.fa 2 2 (.t 44))) (.q 3 (oQ 46 (.ld none (.t 45))) (.q 4 (oQ 47 (.fa 3 3 (.t 5))) (.q 5 (oQ 48 (.ld none (.t 47))) (.q 6 (oQ 49 (.bin .add (.t 46) (.t 48))) (.q 7 (oQ 50 (.nck (.t 43))) (.q 8 (oQ 51 (.fa 2 2 (.t 50))) (.e 9 (oN (.st 1 (.t 51) (.t 49))) .done)))))))))))
 (.seq
 (.reg false [0,6] [oQ 52 (.fa 3 3 (.t 5)),
 oQ 53 (.ld none (.t 52)),
 oQ 54 (.bin .geq (.t 53) (kI 1)),
 oQ 6 (.mov (.t 54))])
 .ret))
 (.seq
 (.reg false [0,1,5,55] [oQ 56 (.bin .eql (.t 15) (kI 6)),
 oQ 55 (.mov (.t 56))])
 (.cond (.t 55)
 (.seq
 (.reg false [0,6] [oQ 57 (.fa 3 3 (.t 5)),
 oQ 58 (.ld none (.t 57)),
 oQ 59 (.bin .eql (.t 58) (kI 0)),
 oQ 60 (.mov (.t 59)),
 oG 61 60 true (.mov (.t 0)),
 oG 62 60 true (.mov (.t 1)),
 oH 63 60 true (.call 104 [(.t 61),(.t 62)]),
 oQ 64 (.pick (.t 60) (.t 63) (kB false)),
 oQ 6 (.mov (.t 64))])
 .ret)
 .skip))))))))
 (.seq
 (.reg false [0,6] [oQ 6 (.mov (kB false))])
 .ret))))
theorem c73:(Go.Proofs.Tryz.f73).body.bind (comp prog.P (3,(Go.Proofs.Tryz.f73).ntmps) aQ3)=some m73:=by kernel_rfl
theorem r73:b6 prog.P (Go.Proofs.Tryz.f73).results.toList=true:=by kernel_rfl
def aQ2:List (Nat×List Nat):=[(0,[0]),(1,[0,3]),(2,[0,3,7]),(3,[0,3]),(4,[0,3,15]),(5,[2]),(6,[2])]
def m74:MC :=
 (.seq
 (.reg false [0] [oQ 2 (.mov (kB false))])
 (.seq
 (.seq
 (.reg false [0,3] [oQ 3 (.mov (kI 0))])
 (.block 0
 (.loop
 (.seq
 (.seq
 (.reg false [0,3,7] [oQ 4 (.mov (.t 3)),
 oQ 5 (.mov (.t 0)),
 oQ 6 (.len false (.t 5)),
 oQ 7 (.bin .lss (.t 4) (.t 6))])
 (.cond (.t 7)
 .skip
 (.exit 0)))
 (.seq
 (.block 1
 (.seq
 (.reg false [0,3,15] [oQ 10 (.mov (.t 0)),
 oQ 11 (.mov (.t 3)),
 oQ 12 (.ia 1 (.t 10) (.t 11)),
 oQ 13 (.ld none (.t 12)),
 oX 14 (.call 105 [(.t 13)]),
 oQ 15 (.un .not (.t 14))])
 (.cond (.t 15)
 (.seq
 (.reg false [2] [oQ 2 (.mov (kB false))])
 .ret)
 .skip)))
 (.reg false [0,3] [oQ 8 (.mov (.t 3)),
 oQ 9 (.bin .add (.t 8) (kI 1)),
 oQ 3 (.mov (.t 9))]))))))
 (.seq
 (.reg false [2] [oQ 16 (.mov (.t 0)),
 oQ 17 (.len false (.t 16)),
 oX 18 (.call 60 [(.t 17),(kI 1),(kI 8)]),
 oQ 2 (.mov (.t 18))])
 .ret)))
theorem c74:(Go.Proofs.Tryz.f74).body.bind (comp prog.P (1,(Go.Proofs.Tryz.f74).ntmps) aQ2)=some m74:=by kernel_rfl
theorem r74:b6 prog.P (Go.Proofs.Tryz.f74).results.toList=true:=by kernel_rfl
def aQr:List (Nat×List Nat):=[(0,[1]),(1,[2])]
def m75:MC :=
 (.seq
 (.reg false [1] [oX 1 (.box (.t 0)),
 oQ 2 (.mov (kB false))])
 (.seq
 (.reg false [2] [oQ 3 (.fa 0 0 (.t 1)),
 oQ 4 (.ld none (.t 3)),
 oX 5 (.call 60 [(.t 4),(kI 1),(kI 999)]),
 oQ 6 (.mov (.t 5)),
 oG 7 6 true (.fa 1 1 (.t 1)),
 oG 8 6 true (.ld none (.t 7)),
 oH 9 6 true (.call 60 [(.t 8),(kI 1),(kI 3)]),
 oQ 10 (.pick (.t 6) (.t 9) (kB false)),
 oQ 11 (.mov (.t 10)),
 oG 12 11 true (.fa 2 2 (.t 1)),
 oG 13 11 true (.ld none (.t 12)),
 oH 14 11 true (.call 54 [(.t 13)]),
 oQ 15 (.pick (.t 11) (.t 14) (kB false)),
 oQ 16 (.mov (.t 15)),
 oG 17 16 true (.fa 3 3 (.t 1)),
 oG 18 16 true (.ld none (.t 17)),
 oG 19 16 true (.len false (.t 18)),
 oG 20 16 true (.bin .leq (.t 19) (kI 5)),
 oQ 21 (.pick (.t 16) (.t 20) (kB false)),
 oQ 22 (.mov (.t 21)),
 oG 23 22 true (.fa 3 3 (.t 1)),
 oG 24 22 true (.ld none (.t 23)),
 oH 25 22 true (.call 106 [(.t 24),(kI 1),(kI 9)]),
 oQ 26 (.pick (.t 22) (.t 25) (kB false)),
 oQ 2 (.mov (.t 26))])
 .ret))
theorem c75:(Go.Proofs.Tryz.f75).body.bind (comp prog.P (1,(Go.Proofs.Tryz.f75).ntmps) aQr)=some m75:=by kernel_rfl
theorem r75:b6 prog.P (Go.Proofs.Tryz.f75).results.toList=true:=by kernel_rfl
def aRj:List (Nat×List Nat):=[(0,[2,3,4]),(1,[2,3,4,5]),(2,[2,3,4,5,6]),(3,[2,3,4,5,6,25]),(4,[2,3,4,5,6]),(5,[4,5,6,7]),(6,[4,5]),(7,[4]),(1000006,[1,15,1,1,1,2,1,3,1,4,1,6,1,9,1,10,1,11,1,12,3,2,0,3,2,5,2,7,2,8,2,13,1,14,2,15,0,2,7,2,5,2,8,2,13,1,14,2,15,0,2,7,2,0,2,5,2,8,2,13,1,14,2,15,0])]
def m76:MC :=
 (.seq
 (.reg false [2,3,4] [oX 2 (.box (.t 0)),
 oX 3 (.box (.t 1)),
 oX 4 (.alloc (.st (.cons (.int .i64 0) (.cons (.sl true 4 .nil) (.cons (.int .i64 0) (.cons (.int .i64 0) (.cons (.sl true 1 .nil) .nil)))))))])
 (.seq
 (.reg false [2,3,4,5] [oQ 8 (.ldv 5 (.t 2)),
 oX 9 (.call 52 [(.t 8)]),
 oX 5 (.alloc (.st (.cons (.int .i64 0) (.cons (.sl true 4 .nil) (.cons (.int .i64 0) (.cons (.int .i64 0) (.cons (.sl true 1 .nil) .nil))))))),
 oN (.st 5 (.t 5) (.t 9))])
 (.seq
 (.reg false [2,3,4,5,6] [oQ 6 (.mov (kI 0))])
 (.seq
 (.block 0
 (.loop
 (.seq
 (.seq
 (.reg true [2,3,4,5,6,25] [oQ 10 (.mov (.t 6)),
 oQ 11 (.fa 1 1 (.t 5)),
 oQ 12 (.ld none (.t 11)),
 oQ 13 (.len false (.t 12)),
 oQ 14 (.bin .lss (.t 10) (.t 13)),
 oQ 15 (.mov (.t 14)),
 oG 16 15 true (.fa 1 1 (.t 5)),
 oG 17 15 true (.ld none (.t 16)),
 oG 18 15 true (.mov (.t 6)),
 oG 19 15 true (.ia 4 (.t 17) (.t 18)),
 oG 20 15 true (.fa 0 0 (.t 19)),
 oG 21 15 true (.ld none (.t 20)),
 oG 22 15 true (.fa 1 1 (.t 3)),
 oG 23 15 true (.ld none (.t 22)),
 oG 24 15 true (.bin .lss (.t 21) (.t 23)),
 oQ 25 (.pick (.t 15) (.t 24) (kB false))])
 (.cond (.t 25)
 .skip
 (.exit 0)))
 (.block 1
 (.reg false [2,3,4,5,6] [oQ 26 (.mov (.t 6)),
 oQ 27 (.bin .add (.t 26) (kI 1)),
 oQ 6 (.mov (.t 27))])))))
 (.seq
 (.reg false [4,5,6,7] [oQ 28 (.fa 1 1 (.t 3)),
 oQ 29 (.ld none (.t 28)),
 oQ 30 (.fa 2 2 (.t 3)),
 oQ 31 (.ld none (.t 30)),
 oQ 32 (.fa 0 0 (.t 2)),
 oQ 33 (.ld none (.t 32)),
 oQ 34 (.fa 3 3 (.t 3)),
 oQ 35 (.ld none (.t 34)),
 oQ 36 (.bin .add (.t 33) (.t 35)),
 oX 37 (.bs 1 0 (.int .i64 0) []),
 oX 38 (.bld (.cons (.int .i64 0) (.cons (.int .i64 0) (.cons (.int .i64 0) (.cons (.sl true 1 .nil) .nil)))) [(0,(.t 29)),(1,(.t 31)),(2,(.t 36)),(3,(.t 37))]),
 oX 7 (.alloc (.st (.cons (.int .i64 0) (.cons (.int .i64 0) (.cons (.int .i64 0) (.cons (.sl true 1 .nil) .nil)))))),
 oN (.st 4 (.t 7) (.t 38))])
 (.seq
 (.any [15] [4,5] (.q 1 (oQ 40 (.fa 1 1 (.t 5))) (.q 2 (oQ 41 (.ld none (.t 40))) (.q 3 (oQ 42 (.mov (.t 6))) (.q 4 (oQ 43 (.slx 4 (.t 41) none (some (.t 42)))) (.q 6 (oQ 45 (.ld (some 4) (.t 7))) (.q 9 (oQ 48 (.fa 1 1 (.t 5))) (.q 10 (oQ 49 (.ld none (.t 48))) (.q 11 (oQ 50 (.mov (.t 6))) (.q 12 (oQ 51 (.slx 4 (.t 49) (some (.t 50)) none)) (.br (.e 0 (oX 39 (.bs 4 0 (.st (.cons (.int .i64 0) (.cons (.int .i64 0) (.cons (.int .i64 0) (.cons (.sl true 1 .nil) .nil))))) [])) (.br (.e 5 (oX 44 (.app 4 48 (.t 39) (.t 43))) (.e 7 (oX 46 (.bs 4 1 (.st (.cons (.int .i64 0) (.cons (.int .i64 0) (.cons (.int .i64 0) (.cons (.sl true 1 .nil) .nil))))) [(0,(.t 45))])) (.e 8 (oX 47 (.app 4 48 (.t 44) (.t 46))) (.e 13 (oX 52 (.app 4 48 (.t 47) (.t 51))) (.q 14 (oQ 53 (.fa 1 1 (.t 5))) (.e 15 (oN (.st 1 (.t 53) (.t 52))) .done))))))
 (.e 7 (oX 46 (.bs 4 1 (.st (.cons (.int .i64 0) (.cons (.int .i64 0) (.cons (.int .i64 0) (.cons (.sl true 1 .nil) .nil))))) [(0,(.t 45))])) (.e 5 (oX 44 (.app 4 48 (.t 39) (.t 43))) (.e 8 (oX 47 (.app 4 48 (.t 44) (.t 46))) (.e 13 (oX 52 (.app 4 48 (.t 47) (.t 51))) (.q 14 (oQ 53 (.fa 1 1 (.t 5))) (.e 15 (oN (.st 1 (.t 53) (.t 52))) .done))))))))
 (.e 7 (oX 46 (.bs 4 1 (.st (.cons (.int .i64 0) (.cons (.int .i64 0) (.cons (.int .i64 0) (.cons (.sl true 1 .nil) .nil))))) [(0,(.t 45))])) (.e 0 (oX 39 (.bs 4 0 (.st (.cons (.int .i64 0) (.cons (.int .i64 0) (.cons (.int .i64 0) (.cons (.sl true 1 .nil) .nil))))) [])) (.e 5 (oX 44 (.app 4 48 (.t 39) (.t 43))) (.e 8 (oX 47 (.app 4 48 (.t 44) (.t 46))) (.e 13 (oX 52 (.app 4 48 (.t 47) (.t 51))) (.q 14 (oQ 53 (.fa 1 1 (.t 5))) (.e 15 (oN (.st 1 (.t 53) (.t 52))) .done))))))))))))))))))
 (.seq
 (.reg false [4] [oQ 54 (.ldv 5 (.t 5)),
 oN (.st 5 (.t 4) (.t 54))])
 .ret)))))))
theorem c76:(Go.Proofs.Tryz.f76).body.bind (comp prog.P (2,(Go.Proofs.Tryz.f76).ntmps) aRj)=some m76:=by kernel_rfl
theorem r76:b6 prog.P (Go.Proofs.Tryz.f76).results.toList=true:=by kernel_rfl
def aPW:List (Nat×List Nat):=[(0,[0,1]),(1,[0,1,5]),(2,[0,1,5,17]),(3,[0,1,5]),(4,[0,1,5,31]),(5,[4]),(6,[4]),(1000006,[0,1,1,1,2,1,3,1,5,1,8,1,9,1,10,3,2,0,3,2,4,2,6,2,7,2,11,1,12,0,2,6,2,4,2,7,2,11,1,12,0,2,6,2,0,2,4,2,7,2,11,1,12,0])]
def m77:MC :=
 (.seq
 (.reg false [0,1] [oQ 4 (.mov (.k .nil))])
 (.seq
 (.reg false [0,1,5] [oQ 5 (.mov (kI 0))])
 (.seq
 (.block 0
 (.loop
 (.seq
 (.seq
 (.reg false [0,1,5,17] [oQ 6 (.mov (.t 5)),
 oQ 7 (.mov (.t 0)),
 oQ 8 (.len false (.t 7)),
 oQ 9 (.bin .lss (.t 6) (.t 8)),
 oQ 10 (.mov (.t 9)),
 oG 11 10 true (.mov (.t 0)),
 oG 12 10 true (.mov (.t 5)),
 oG 13 10 true (.ia 1 (.t 11) (.t 12)),
 oG 14 10 true (.ld none (.t 13)),
 oG 15 10 true (.mov (.t 1)),
 oG 16 10 true (.bin .lss (.t 14) (.t 15)),
 oQ 17 (.pick (.t 10) (.t 16) (kB false))])
 (.cond (.t 17)
 .skip
 (.exit 0)))
 (.block 1
 (.reg false [0,1,5] [oQ 18 (.mov (.t 5)),
 oQ 19 (.bin .add (.t 18) (kI 1)),
 oQ 5 (.mov (.t 19))])))))
 (.seq
 (.seq
 (.reg false [0,1,5,31] [oQ 20 (.mov (.t 5)),
 oQ 21 (.mov (.t 0)),
 oQ 22 (.len false (.t 21)),
 oQ 23 (.bin .lss (.t 20) (.t 22)),
 oQ 24 (.mov (.t 23)),
 oG 25 24 true (.mov (.t 0)),
 oG 26 24 true (.mov (.t 5)),
 oG 27 24 true (.ia 1 (.t 25) (.t 26)),
 oG 28 24 true (.ld none (.t 27)),
 oG 29 24 true (.mov (.t 1)),
 oG 30 24 true (.bin .eql (.t 28) (.t 29)),
 oQ 31 (.pick (.t 24) (.t 30) (kB false))])
 (.cond (.t 31)
 (.seq
 (.reg false [4] [oQ 32 (.mov (.t 0)),
 oQ 4 (.mov (.t 32))])
 .ret)
 .skip))
 (.seq
 (.any [] [4] (.q 1 (oQ 34 (.mov (.t 0))) (.q 2 (oQ 35 (.mov (.t 5))) (.q 3 (oQ 36 (.slx 1 (.t 34) none (some (.t 35)))) (.q 5 (oQ 38 (.mov (.t 1))) (.q 8 (oQ 41 (.mov (.t 0))) (.q 9 (oQ 42 (.mov (.t 5))) (.q 10 (oQ 43 (.slx 1 (.t 41) (some (.t 42)) none)) (.br (.e 0 (oX 33 (.bs 1 0 (.int .i64 0) [])) (.br (.e 4 (oX 37 (.app 1 8 (.t 33) (.t 36))) (.e 6 (oX 39 (.bs 1 1 (.int .i64 0) [(0,(.t 38))])) (.e 7 (oX 40 (.app 1 8 (.t 37) (.t 39))) (.e 11 (oX 44 (.app 1 8 (.t 40) (.t 43))) (.q 12 (oQ 4 (.mov (.t 44))) .done)))))
 (.e 6 (oX 39 (.bs 1 1 (.int .i64 0) [(0,(.t 38))])) (.e 4 (oX 37 (.app 1 8 (.t 33) (.t 36))) (.e 7 (oX 40 (.app 1 8 (.t 37) (.t 39))) (.e 11 (oX 44 (.app 1 8 (.t 40) (.t 43))) (.q 12 (oQ 4 (.mov (.t 44))) .done)))))))
 (.e 6 (oX 39 (.bs 1 1 (.int .i64 0) [(0,(.t 38))])) (.e 0 (oX 33 (.bs 1 0 (.int .i64 0) [])) (.e 4 (oX 37 (.app 1 8 (.t 33) (.t 36))) (.e 7 (oX 40 (.app 1 8 (.t 37) (.t 39))) (.e 11 (oX 44 (.app 1 8 (.t 40) (.t 43))) (.q 12 (oQ 4 (.mov (.t 44))) .done)))))))))))))))
 .ret)))))
theorem c77:(Go.Proofs.Tryz.f77).body.bind (comp prog.P (2,(Go.Proofs.Tryz.f77).ntmps) aPW)=some m77:=by kernel_rfl
theorem r77:b6 prog.P (Go.Proofs.Tryz.f77).results.toList=true:=by kernel_rfl
end Go.Pe.Tryz
