/-
The compact code of the functions that the law reaches,printed by gen.py,each with the proof that the machine's code is compiled to it.
-/
import Derived.Test.YtjmobminbckhjaaGreatDoorMc1
import Derived.Test.YtjmobminbckhjaaGreatDoorProg
import Derived.KernelRfl
set_option maxRecDepth 100000
namespace Go.Pe.Tryz
open Go.Pe
def m89:MC :=
 (.seq
 (rF [0] [oQ 2 (.mov (.k (.d (.str []))))])
 (.seq
 (.seq
 (rF [0,4] [qM 3 0,
 qJ 4 .lss 3 0])
 (cS 4
 (.seq
 (rF [2] [qM 5 0,
 oQ 6 (.un .neg (.t 5)),
 qC 7 89 [6],
 oQ 8 (.bin .add (.k (.d (.str [45]))) (.t 7)),
 qM 2 8])
 .ret)))
 (.seq
 (.seq
 (rF [0,10] [qM 9 0,
 qJ 10 .lss 9 10])
 (cS 10
 (.seq
 (rF [2] [qM 11 0,
 qM 12 0,
 qJ 13 .add 12 1,
 oQ 14 (.sls (.k (.d (.str [48,49,50,51,52,53,54,55,56,57]))) (some (.t 11)) (some (.t 13))),
 qM 2 14])
 .ret)))
 (.seq
 (.reg true [2] [qM 15 0,
 qJ 16 .quo 15 10,
 oQ 17 (.callP 89 [(.t 16)]),
 qM 18 0,
 qJ 19 .rem 18 10,
 qM 20 0,
 qJ 21 .rem 20 10,
 qJ 22 .add 21 1,
 oQ 23 (.sls (.k (.d (.str [48,49,50,51,52,53,54,55,56,57]))) (some (.t 19)) (some (.t 22))),
 qT 24 .add 17 23,
 qM 2 24])
 .ret))))
noncomputable def aQm:CM prog 89 1 [(0,[0]),(1,[0,4]),(2,[2]),(3,[0,10]),(4,[2]),(5,[2])]:=.mk (m:=m89) Go.Proofs.Tryz.func89 (by kernel_rfl)
def m90:MC :=
 (.seq
 (rF [1] [oX 1 (.box (.t 0)),
 oQ 2 (.mov (.k .nil)),
 qB 3 false])
 (.seq
 (rF [1,4] [oX 6 (.bs 1 0 (.int .i64 0) []),
 qM 4 6])
 (.seq
 (.seq
 (rF [1,4,9] [qV 7 5 1,
 qC 8 53 [7],
 qU 9 8])
 (cS 9
 (.seq
 (rF [2,3] [qM 10 4,
 qM 2 10,
 qB 3 false])
 .ret)))
 (.seq
 (.seq
 (rF [1,4,5] [qI 5 0])
 (.block 0
 (.loop
 (.seq
 (.seq
 (rF [1,4,5,15] [qM 11 5,
 qF 12 1 1 1,
 qL 13 12,
 qN 14 false 13,
 qT 15 .lss 11 14])
 (cE 15 0))
 (.seq
 (.block 1
 (.seq
 (.reg true [1,4,5,26] [qF 18 1 1 1,
 qL 19 18,
 qM 20 5,
 qX 21 4 19 20,
 qF 22 2 2 21,
 qL 23 22,
 qF 24 0 0 1,
 qL 25 24,
 qT 26 .leq 23 25])
 (cS 26
 (rF [1,4,5] [qM 27 4,
 qF 28 1 1 1,
 qL 29 28,
 qM 30 5,
 qX 31 4 29 30,
 qF 32 0 0 31,
 qL 33 32,
 oX 34 (.bs 1 1 (.int .i64 0) [(0,(.t 33))]),
 oX 35 (.app 1 8 (.t 27) (.t 34)),
 qM 4 35]))))
 (rF [1,4,5] [qM 16 5,
 qJ 17 .add 16 1,
 qM 5 17]))))))
 (.seq
 (rF [2,3] [qM 36 4,
 qM 2 36,
 qB 3 true])
 .ret)))))
noncomputable def aQo:CM prog 90 1 [(0,[1]),(1,[1,4]),(2,[1,4,9]),(3,[2,3]),(4,[1,4,5]),(5,[1,4,5,15]),(6,[1,4,5]),(7,[1,4,5,26]),(8,[1,4,5]),(9,[2,3])]:=.mk (m:=m90) Go.Proofs.Tryz.func90 (by kernel_rfl)
def m91:MC :=
 (.seq
 (rF [0,1] [oQ 4 (.mov (.k (.d (.str []))))])
 (.seq
 (.seq
 (rF [0,8] [qM 7 1,
 qU 8 7])
 (cS 8
 (.seq
 (rF [4] [oQ 4 (.mov (.k (.d (.str [63]))))])
 .ret)))
 (.seq
 (.seq
 (rF [0,11] [qM 9 0,
 qN 10 false 9,
 qJ 11 .eql 10 0])
 (cS 11
 (.seq
 (rF [4] [oQ 4 (.mov (.k (.d (.str [110,111,110,101]))))])
 .ret)))
 (.seq
 (rF [0,5] [qM 12 0,
 oQ 13 (.ia 1 (.t 12) (kI 0)),
 qL 14 13,
 qC 15 89 [14],
 qM 5 15])
 (.seq
 (.seq
 (rF [0,5,6] [qI 6 1])
 (.block 0
 (.loop
 (.seq
 (.seq
 (rF [0,5,6,19] [qM 16 6,
 qM 17 0,
 qN 18 false 17,
 qT 19 .lss 16 18])
 (cE 19 0))
 (.seq
 (.block 1
 (rF [0,5,6] [qM 22 5,
 oQ 23 (.bin .add (.t 22) (.k (.d (.str [32])))),
 qM 24 0,
 qM 25 6,
 qX 26 1 24 25,
 qL 27 26,
 qC 28 89 [27],
 qT 29 .add 23 28,
 qM 5 29]))
 (rF [0,5,6] [qM 20 6,
 qJ 21 .add 20 1,
 qM 6 21]))))))
 (.seq
 (rF [4] [qM 30 5,
 qM 4 30])
 .ret))))))
noncomputable def aKY:CM prog 91 2 [(0,[0,1]),(1,[0,8]),(2,[4]),(3,[0,11]),(4,[4]),(5,[0,5]),(6,[0,5,6]),(7,[0,5,6,19]),(8,[0,5,6]),(9,[0,5,6]),(10,[4])]:=.mk (m:=m91) Go.Proofs.Tryz.func91 (by kernel_rfl)
def m92:MC :=
 (.seq
 (rF [1] [oX 1 (.box (.t 0)),
 oQ 2 (.mov (.k .nil)),
 qB 3 false])
 (.seq
 (rF [1,4] [oX 7 (.bs 1 0 (.int .i64 0) []),
 qM 4 7])
 (.seq
 (.seq
 (rF [1,4,10] [qV 8 5 1,
 qC 9 53 [8],
 qU 10 9])
 (cS 10
 (.seq
 (rF [2,3] [qM 11 4,
 qM 2 11,
 qB 3 false])
 .ret)))
 (.seq
 (.seq
 (rF [1,4,5] [qI 5 0])
 (.block 0
 (.loop
 (.seq
 (.seq
 (rF [1,4,5,16] [qM 12 5,
 qF 13 1 1 1,
 qL 14 13,
 qN 15 false 14,
 qT 16 .lss 12 15])
 (cE 16 0))
 (.seq
 (.block 1
 (.seq
 (rF [1,4,5,6] [qF 19 1 1 1,
 qL 20 19,
 qM 21 5,
 qX 22 4 20 21,
 oQ 23 (.ld (some 4) (.t 22)),
 oX 6 (.alloc (.st (.cons (.int .i64 0) (.cons (.int .i64 0) (.cons (.int .i64 0) (.cons (.sl true 1 .nil) .nil)))))),
 qS 4 6 23])
 (.seq
 (rF [1,4,5,6,39] [qF 24 2 2 6,
 qL 25 24,
 qF 26 0 0 1,
 qL 27 26,
 qT 28 .leq 25 27,
 qM 29 28,
 gF 30 29 true 1 1 6,
 gL 31 29 true 30,
 oG 32 29 true (.bin .eql (.t 31) (kI 3)),
 qA 33 29 32,
 qM 34 33,
 gF 35 34 true 3 3 6,
 gL 36 34 true 35,
 oG 37 34 true (.len false (.t 36)),
 oG 38 34 true (.bin .gtr (.t 37) (kI 0)),
 qA 39 34 38])
 (cS 39
 (rF [1,4,5] [qM 40 4,
 qF 41 0 0 6,
 qL 42 41,
 oX 43 (.bs 1 1 (.int .i64 0) [(0,(.t 42))]),
 oX 44 (.app 1 8 (.t 40) (.t 43)),
 qM 4 44])))))
 (rF [1,4,5] [qM 17 5,
 qJ 18 .add 17 1,
 qM 5 18]))))))
 (.seq
 (rF [2,3] [qM 45 4,
 qM 2 45,
 qB 3 true])
 .ret)))))
noncomputable def aOO:CM prog 92 1 [(0,[1]),(1,[1,4]),(2,[1,4,10]),(3,[2,3]),(4,[1,4,5]),(5,[1,4,5,16]),(6,[1,4,5]),(7,[1,4,5,6]),(8,[1,4,5,6,39]),(9,[1,4,5]),(10,[2,3])]:=.mk (m:=m92) Go.Proofs.Tryz.func92 (by kernel_rfl)
def m93:MC :=
 (.seq
 (rF [1] [oX 1 (.box (.t 0)),
 qI 2 0,
 qB 3 false])
 (.seq
 (.seq
 (rF [1,12] [qV 4 5 1,
 qC 5 53 [4],
 qU 6 5,
 qM 7 6,
 gF 8 7 false 4 4 1,
 gL 9 7 false 8,
 oG 10 7 false (.len false (.t 9)),
 oG 11 7 false (.bin .eql (.t 10) (kI 0)),
 qO 12 7 11])
 (cS 12
 (.seq
 (rF [2,3] [qI 2 0,
 qB 3 false])
 .ret)))
 (.seq
 (rF [2,3] [qF 13 4 4 1,
 qL 14 13,
 qC 15 125 [14],
 qM 2 15,
 qB 3 true])
 .ret)))
noncomputable def aKu:CM prog 93 1 [(0,[1]),(1,[1,12]),(2,[2,3]),(3,[2,3])]:=.mk (m:=m93) Go.Proofs.Tryz.func93 (by kernel_rfl)
def m94:MC :=
 (.seq
 (rF [1,2] [oX 2 (.box (.t 0)),
 oQ 4 (.mov (.k .nil)),
 qB 5 false])
 (.seq
 (rF [1,2,6] [oX 8 (.bs 1 0 (.int .i64 0) []),
 qM 6 8])
 (.seq
 (.seq
 (rF [1,2,6,16] [qV 9 5 2,
 qC 10 53 [9],
 qU 11 10,
 qM 12 11,
 gM 13 12 false 1,
 oH 14 12 false (.call 85 [(.t 13),(kI 1),(kI 9)]),
 oG 15 12 false (.un .not (.t 14)),
 qO 16 12 15])
 (cS 16
 (.seq
 (rF [4,5] [qM 17 6,
 qM 4 17,
 qB 5 false])
 .ret)))
 (.seq
 (.seq
 (rF [1,2,6,7] [qI 7 0])
 (.block 0
 (.loop
 (.seq
 (.seq
 (rF [1,2,6,7,22] [qM 18 7,
 qF 19 1 1 2,
 qL 20 19,
 qN 21 false 20,
 qT 22 .lss 18 21])
 (cE 22 0))
 (.seq
 (.block 1
 (.seq
 (rF [1,2,6,7,32] [qF 25 1 1 2,
 qL 26 25,
 qM 27 7,
 qX 28 4 26 27,
 qF 29 3 3 28,
 qL 30 29,
 qM 31 1,
 qC 32 126 [30,31]])
 (cS 32
 (rF [1,2,6,7] [qM 33 6,
 qF 34 1 1 2,
 qL 35 34,
 qM 36 7,
 qX 37 4 35 36,
 qF 38 0 0 37,
 qL 39 38,
 oX 40 (.bs 1 1 (.int .i64 0) [(0,(.t 39))]),
 oX 41 (.app 1 8 (.t 33) (.t 40)),
 qM 6 41]))))
 (rF [1,2,6,7] [qM 23 7,
 qJ 24 .add 23 1,
 qM 7 24]))))))
 (.seq
 (rF [4,5] [qM 42 6,
 qM 4 42,
 qB 5 true])
 .ret)))))
noncomputable def aKn:CM prog 94 2 [(0,[1,2]),(1,[1,2,6]),(2,[1,2,6,16]),(3,[4,5]),(4,[1,2,6,7]),(5,[1,2,6,7,22]),(6,[1,2,6,7]),(7,[1,2,6,7,32]),(8,[1,2,6,7]),(9,[4,5])]:=.mk (m:=m94) Go.Proofs.Tryz.func94 (by kernel_rfl)
def m95:MC :=
 (.seq
 (rF [1,2] [oX 2 (.box (.t 0)),
 oQ 4 (.mov (.k (.d (.str []))))])
 (.seq
 (rF [5,6] [qV 8 5 2,
 qM 9 1,
 qC 10 127 [8,9],
 qM 7 10,
 qE 11 7 0,
 qE 12 7 1,
 qM 5 11,
 qM 6 12])
 (.seq
 (.seq
 (rF [5,14] [qM 13 6,
 qU 14 13])
 (cS 14
 (.seq
 (rF [4] [oQ 4 (.mov (.k (.d (.str [63]))))])
 .ret)))
 (.seq
 (rF [4] [qM 15 5,
 qM 4 15])
 .ret))))
noncomputable def aJ7:CM prog 95 2 [(0,[1,2]),(1,[5,6]),(2,[5,14]),(3,[4]),(4,[4])]:=.mk (m:=m95) Go.Proofs.Tryz.func95 (by kernel_rfl)
def m96:MC :=
 (.seq
 (rF [2,3,4] [oX 2 (.box (.t 0)),
 oX 3 (.box (.t 1)),
 oX 4 (.alloc (.st (.cons (.int .i64 0) (.cons (.sl true 4 .nil) (.cons (.int .i64 0) (.cons (.int .i64 0) (.cons (.sl true 1 .nil) .nil))))))),
 qB 5 false])
 (.seq
 (.seq
 (rF [2,3,4,16] [qV 8 5 2,
 qC 9 53 [8],
 qU 10 9,
 qM 11 10,
 gV 12 11 false 5 2,
 oG 13 11 false (.ld (some 4) (.t 3)),
 oH 14 11 false (.call 128 [(.t 12),(.t 13)]),
 oG 15 11 false (.un .not (.t 14)),
 qO 16 11 15])
 (cS 16
 (.seq
 (rF [4,5] [oX 17 (.bld (.cons (.int .i64 0) (.cons (.sl true 4 .nil) (.cons (.int .i64 0) (.cons (.int .i64 0) (.cons (.sl true 1 .nil) .nil))))) []),
 qS 5 4 17,
 qB 5 false])
 .ret)))
 (.seq
 (rF [4,6,7] [qV 19 5 2,
 oQ 20 (.ld (some 4) (.t 3)),
 qC 21 129 [19,20],
 qM 18 21,
 qE 22 18 0,
 qE 23 18 1,
 oX 6 (.alloc (.st (.cons (.int .i64 0) (.cons (.sl true 4 .nil) (.cons (.int .i64 0) (.cons (.int .i64 0) (.cons (.sl true 1 .nil) .nil))))))),
 qS 5 6 22,
 qM 7 23])
 (.seq
 (.seq
 (rF [4,6,25] [qM 24 7,
 qU 25 24])
 (cS 25
 (.seq
 (rF [4,5] [oX 26 (.bld (.cons (.int .i64 0) (.cons (.sl true 4 .nil) (.cons (.int .i64 0) (.cons (.int .i64 0) (.cons (.sl true 1 .nil) .nil))))) []),
 qS 5 4 26,
 qB 5 false])
 .ret)))
 (.seq
 (rF [4,5] [qV 27 5 6,
 qS 5 4 27,
 qB 5 true])
 .ret)))))
noncomputable def aJU:CM prog 96 2 [(0,[2,3,4]),(1,[2,3,4,16]),(2,[4,5]),(3,[4,6,7]),(4,[4,6,25]),(5,[4,5]),(6,[4,5])]:=.mk (m:=m96) Go.Proofs.Tryz.func96 (by kernel_rfl)
def m97:MC :=
 (.seq
 (rF [0] [oQ 2 (.mov (.k (.d (.str []))))])
 (.seq
 (rF [2] [qM 3 0,
 oQ 4 (.bin .add (.t 3) (.k (.d (.str [35])))),
 qM 5 0,
 qC 6 130 [5],
 qC 7 89 [6],
 qT 8 .add 4 7,
 qM 2 8])
 .ret))
noncomputable def aUc:CM prog 97 1 [(0,[0]),(1,[2])]:=.mk (m:=m97) Go.Proofs.Tryz.func97 (by kernel_rfl)
def m99:MC :=
 (.seq
 (rF [0] [qB 2 false])
 (.seq
 (rF [2] [qM 3 0,
 qN 4 false 3,
 oX 5 (.call 67 [(.t 4),(kI 1),(kI 8)]),
 qM 6 5,
 gM 7 6 true 0,
 oH 8 6 true (.call 132 [(.t 7),(.k (.d (.clo 133 .nil)))]),
 oG 9 6 true (.un .not (.t 8)),
 qA 10 6 9,
 qM 2 10])
 .ret))
noncomputable def aQd:CM prog 99 1 [(0,[0]),(1,[2])]:=.mk (m:=m99) Go.Proofs.Tryz.func99 (by kernel_rfl)
def aUX:MC :=
 (.seq
 (rF [1] [oX 1 (.box (.t 0)),
 qB 2 false])
 (.seq
 (rF [2] [qF 3 0 0 1,
 qL 4 3,
 qC 5 135 [4],
 qM 6 5,
 gF 7 6 true 1 1 1,
 gL 8 6 true 7,
 oH 9 6 true (.call 136 [(.t 8)]),
 qA 10 6 9,
 qM 11 10,
 gF 12 11 true 2 2 1,
 gL 13 11 true 12,
 oH 14 11 true (.call 81 [(.t 13)]),
 qA 15 11 14,
 qM 16 15,
 gF 17 16 true 3 3 1,
 gL 18 16 true 17,
 oG 19 16 true (.len false (.t 18)),
 oG 20 16 true (.bin .leq (.t 19) (kI 5)),
 qA 21 16 20,
 qM 22 21,
 gF 23 22 true 3 3 1,
 gL 24 22 true 23,
 oH 25 22 true (.call 137 [(.t 24)]),
 qA 26 22 25,
 qM 27 26,
 gF 28 27 true 3 3 1,
 gL 29 27 true 28,
 oH 30 27 true (.call 138 [(.t 29),(.k (.d (.clo 139 .nil)))]),
 oG 31 27 true (.un .not (.t 30)),
 qA 32 27 31,
 qM 2 32])
 .ret))
noncomputable def aRe:CM prog 100 1 [(0,[1]),(1,[2])]:=.mk (m:=aUX) Go.Proofs.Tryz.func100 (by kernel_rfl)
def aT0:MC :=
 (.seq
 (rF [0] [oQ 2 (.mov (.k .nil))])
 (.seq
 (.seq
 (rF [0,4] [qM 3 0,
 oX 4 (.snil false (.t 3))])
 (cS 4
 (.seq
 (rF [2] [oQ 2 (.mov (.k .nil))])
 .ret)))
 (.seq
 (rF [2] [oX 5 (.bs 4 0 (.st (.cons (.int .i64 0) (.cons (.int .i64 0) (.cons (.int .i64 0) (.cons (.sl true 1 .nil) .nil))))) []),
 qM 6 0,
 oX 7 (.app 4 48 (.t 5) (.t 6)),
 qM 2 7])
 .ret)))
noncomputable def aQP:CM prog 101 1 [(0,[0]),(1,[0,4]),(2,[2]),(3,[2])]:=.mk (m:=aT0) Go.Proofs.Tryz.func101 (by kernel_rfl)
def aUL:MC :=
 (.seq
 (rF [0] [oQ 2 (.mov (.k .nil))])
 (.seq
 (.seq
 (rF [0,4] [qM 3 0,
 oX 4 (.snil false (.t 3))])
 (cS 4
 (.seq
 (rF [2] [oQ 2 (.mov (.k .nil))])
 .ret)))
 (.seq
 (rF [2] [oX 5 (.bs 1 0 (.int .i64 0) []),
 qM 6 0,
 oX 7 (.app 1 8 (.t 5) (.t 6)),
 qM 2 7])
 .ret)))
noncomputable def aRh:CM prog 102 1 [(0,[0]),(1,[0,4]),(2,[2]),(3,[2])]:=.mk (m:=aUL) Go.Proofs.Tryz.func102 (by kernel_rfl)
def aUf:MC :=
 (.seq
 (rF [0] [oQ 2 (.mov (.k .nil))])
 (.seq
 (.seq
 (rF [0,4] [qM 3 0,
 oX 4 (.snil false (.t 3))])
 (cS 4
 (.seq
 (rF [2] [oQ 2 (.mov (.k .nil))])
 .ret)))
 (.seq
 (rF [2] [oX 5 (.bs 1 0 (.str []) []),
 qM 6 0,
 oX 7 (.app 1 16 (.t 5) (.t 6)),
 qM 2 7])
 .ret)))
noncomputable def aQp:CM prog 103 1 [(0,[0]),(1,[0,4]),(2,[2]),(3,[2])]:=.mk (m:=aUf) Go.Proofs.Tryz.func103 (by kernel_rfl)
def aVh:MC :=
 (.seq
 (rF [0] [oQ 2 (.mov (.k (.d (.str []))))])
 (.seq
 (rF [2] [qM 3 0,
 qC 4 144 [3],
 qM 2 4])
 .ret))
noncomputable def aQ6:CM prog 106 1 [(0,[0]),(1,[2])]:=.mk (m:=aVh) Go.Proofs.Tryz.func106 (by kernel_rfl)
def aIo:MC :=
 (.seq
 (rF [0,3] [oX 3 (.box (.t 1)),
 qB 4 false])
 (.seq
 (.reg true [0,3,5] [qM 7 0,
 oQ 8 (.nck (.t 7)),
 qV 9 5 8,
 qF 10 1 1 3,
 qL 11 10,
 oQ 12 (.callP 145 [(.t 9),(.t 11)]),
 qM 5 12])
 (.seq
 (.block 0
 (.seq
 (rF [0,3,5,13] [qF 14 0 0 3,
 qL 15 14,
 qJ 16 .eql 15 2,
 qM 13 16])
 (.cond (.t 13)
 (.seq
 (.seq
 (rF [0,3,18] [qM 17 5,
 qJ 18 .geq 17 0])
 (cS 18
 (.seq
 (rF [0,4] [qB 4 false])
 .ret)))
 (.seq
 (rF [0,3,6] [qI 6 0])
 (.seq
 (.block 1
 (.loop
 (.seq
 (.seq
 (.reg true [0,3,6,38] [qM 19 6,
 qM 20 0,
 oQ 21 (.nck (.t 20)),
 qF 22 1 1 21,
 qL 23 22,
 qN 24 false 23,
 qT 25 .lss 19 24,
 qM 26 25,
 gM 27 26 true 0,
 oG 28 26 true (.nck (.t 27)),
 gF 29 26 true 1 1 28,
 gL 30 26 true 29,
 gM 31 26 true 6,
 oG 32 26 true (.ia 4 (.t 30) (.t 31)),
 gF 33 26 true 0 0 32,
 gL 34 26 true 33,
 gF 35 26 true 1 1 3,
 gL 36 26 true 35,
 oG 37 26 true (.bin .lss (.t 34) (.t 36)),
 qA 38 26 37])
 (cE 38 1))
 (.block 2
 (rF [0,3,6] [qM 39 6,
 qJ 40 .add 39 1,
 qM 6 40])))))
 (.seq
 (.any [22] [0] (.q 0 (qM 41 0) (.q 1 (qM 42 0) (.q 2 (oQ 43 (.nck (.t 42))) (.q 3 (qF 44 1 1 43) (.q 4 (qL 45 44) (.q 5 (qM 46 6) (.q 6 (qF 47 1 1 3) (.q 7 (qL 48 47) (.q 8 (qF 49 2 2 3) (.q 9 (qL 50 49) (.q 10 (qM 51 0) (.q 11 (oQ 52 (.nck (.t 51))) (.q 12 (qF 53 0 0 52) (.q 13 (qL 54 53) (.q 14 (qF 55 3 3 3) (.q 15 (qL 56 55) (.q 16 (qT 57 .add 54 56) (.e 17 (oX 58 (.bld (.cons (.int .i64 0) (.cons (.int .i64 0) (.cons (.int .i64 0) (.cons (.sl true 1 .nil) .nil)))) [(0,(.t 48)),(1,(.t 50)),(2,(.t 57))])) (.e 18 (oX 59 (.bs 4 1 (.st (.cons (.int .i64 0) (.cons (.int .i64 0) (.cons (.int .i64 0) (.cons (.sl true 1 .nil) .nil))))) [(0,(.t 58))])) (.e 19 (qC 60 146 [45,46,59]) (.q 20 (oQ 61 (.nck (.t 41))) (.q 21 (qF 62 1 1 61) (.e 22 (qS 1 62 60) .done))))))))))))))))))))))))
 (.seq
 (rF [0,4] [qB 4 true])
 .ret)))))
 (.seq
 (rF [0,3,5,63] [qF 64 2 2 3,
 qL 65 64,
 qJ 66 .neq 65 0,
 qM 63 66])
 (.cond (.t 63)
 (.seq
 (rF [0,4] [qB 4 false])
 .ret)
 (.seq
 (rF [0,3,5,67] [qF 68 0 0 3,
 qL 69 68,
 qJ 70 .eql 69 1,
 qM 67 70])
 (.cond (.t 67)
 (.seq
 (.any [9] [0,3] (.q 0 (qM 71 0) (.q 1 (oQ 72 (.nck (.t 71))) (.q 2 (qF 73 0 0 72) (.q 3 (qL 74 73) (.q 4 (qF 75 3 3 3) (.q 5 (qL 76 75) (.q 6 (qT 77 .add 74 76) (.q 7 (oQ 78 (.nck (.t 71))) (.q 8 (qF 79 0 0 78) (.e 9 (qS 1 79 77) .done)))))))))))
 (.seq
 (rF [0,4] [qF 80 1 1 3,
 qL 81 80,
 qJ 82 .eql 81 0,
 qM 83 82,
 gF 84 83 true 3 3 3,
 gL 85 83 true 84,
 oG 86 83 true (.bin .geq (.t 85) (kI 1)),
 qA 87 83 86,
 qM 4 87])
 .ret))
 (.seq
 (rF [0,3,5,88] [qF 89 0 0 3,
 qL 90 89,
 qJ 91 .eql 90 4,
 qM 88 91])
 (cS 88
 (.seq
 (rF [0,4] [qF 92 1 1 3,
 qL 93 92,
 qJ 94 .eql 93 0,
 qM 95 94,
 gM 96 95 true 0,
 gF 97 95 true 3 3 3,
 gL 98 95 true 97,
 oH 99 95 true (.call 147 [(.t 96),(.t 98)]),
 qA 100 95 99,
 qM 4 100])
 .ret))))))))))
 (.seq
 (rF [0,4] [qM 101 5,
 qJ 102 .geq 101 0,
 qM 103 102,
 gM 104 103 true 0,
 gM 105 103 true 5,
 oG 106 103 true (.ld (some 4) (.t 3)),
 oH 107 103 true (.call 148 [(.t 104),(.t 105),(.t 106)]),
 qA 108 103 107,
 qM 4 108])
 .ret))))
noncomputable def sY:CM prog 107 2 [(0,[0,3]),(1,[0,3,5]),(2,[0,3,5,13]),(3,[0,3,18]),(4,[0,4]),(5,[0,3,6]),(6,[0,3,6,38]),(7,[0,3,6]),(8,[0]),(9,[0,4]),(10,[0,3,5,63]),(11,[0,4]),(12,[0,3,5,67]),(13,[0,3]),(14,[0,4]),(15,[0,3,5,88]),(16,[0,4]),(17,[0,4]),(1000008,[1,22,1,0,1,1,1,2,1,3,1,4,1,5,1,6,1,7,1,8,1,9,1,10,1,11,1,12,1,13,1,14,1,15,1,16,2,17,2,18,2,19,1,20,1,21,2,22,0]),(1000013,[1,9,1,0,1,1,1,2,1,3,1,4,1,5,1,6,1,7,1,8,2,9,0])]:=.mk (m:=aIo) Go.Proofs.Tryz.func107 (by kernel_rfl)
def aNS:MC :=
 (.seq
 (rF [2,3] [oX 2 (.box (.t 0)),
 oX 3 (.box (.t 1)),
 oQ 4 (.mov (.k .nil)),
 qB 5 false])
 (.seq
 (.seq
 (rF [2,3,13] [qV 6 5 2,
 qC 7 64 [6],
 qU 8 7,
 qM 9 8,
 gL 10 9 false 3,
 oH 11 9 false (.call 140 [(.t 10)]),
 oG 12 9 false (.un .not (.t 11)),
 qO 13 9 12])
 (cS 13
 (.seq
 (rF [4,5] [oQ 4 (.mov (.k .nil)),
 qB 5 false])
 .ret)))
 (.seq
 (rF [4,5] [qV 14 5 2,
 oQ 15 (.clos 150 [(.t 3)]),
 qC 16 149 [14,15],
 qM 4 16,
 qB 5 true])
 .ret)))
noncomputable def aDq:CM prog 108 2 [(0,[2,3]),(1,[2,3,13]),(2,[4,5]),(3,[4,5])]:=.mk (m:=aNS) Go.Proofs.Tryz.func108 (by kernel_rfl)
def aSL:MC :=
 (.seq
 (rF [0] [oQ 2 (.mov (.k (.d (.str []))))])
 (.seq
 (.seq
 (rF [0,5] [qM 3 0,
 qN 4 false 3,
 qJ 5 .eql 4 0])
 (cS 5
 (.seq
 (rF [2] [oQ 2 (.mov (.k (.d (.str [110,111,110,101]))))])
 .ret)))
 (.seq
 (rF [2] [qM 6 0,
 oX 7 (.call 152 [(.t 6),(.k (.d (.str [32])))]),
 qM 2 7])
 .ret)))
noncomputable def aIX:CM prog 109 1 [(0,[0]),(1,[0,5]),(2,[2]),(3,[2])]:=.mk (m:=aSL) Go.Proofs.Tryz.func109 (by kernel_rfl)
def aSO:MC :=
 (.seq
 (rF [1] [oX 1 (.box (.t 0)),
 oQ 2 (.mov (.k .nil)),
 qB 3 false])
 (.seq
 (.seq
 (rF [1,6] [qV 4 5 1,
 qC 5 64 [4],
 qU 6 5])
 (cS 6
 (.seq
 (rF [2,3] [oQ 2 (.mov (.k .nil)),
 qB 3 false])
 .ret)))
 (.seq
 (rF [2,3] [qV 7 5 1,
 oQ 8 (.clos 153 [(.t 1)]),
 qC 9 149 [7,8],
 qM 2 9,
 qB 3 true])
 .ret)))
noncomputable def aJc:CM prog 110 1 [(0,[1]),(1,[1,6]),(2,[2,3]),(3,[2,3])]:=.mk (m:=aSO) Go.Proofs.Tryz.func110 (by kernel_rfl)
def aSW:MC :=
 (.seq
 (rF [1] [oX 1 (.box (.t 0)),
 oQ 2 (.mov (.k .nil)),
 qB 3 false])
 (.seq
 (.seq
 (rF [1,6] [qV 4 5 1,
 qC 5 64 [4],
 qU 6 5])
 (cS 6
 (.seq
 (rF [2,3] [oQ 2 (.mov (.k .nil)),
 qB 3 false])
 .ret)))
 (.seq
 (rF [2,3] [qV 7 5 1,
 oQ 8 (.clos 154 [(.t 1)]),
 qC 9 149 [7,8],
 qM 2 9,
 qB 3 true])
 .ret)))
noncomputable def aIG:CM prog 111 1 [(0,[1]),(1,[1,6]),(2,[2,3]),(3,[2,3])]:=.mk (m:=aSW) Go.Proofs.Tryz.func111 (by kernel_rfl)
def aOm:MC :=
 (.seq
 (rF [1] [oX 1 (.box (.t 0)),
 qI 2 0,
 qB 3 false])
 (.seq
 (.seq
 (rF [1,6] [qV 4 5 1,
 qC 5 64 [4],
 qU 6 5])
 (cS 6
 (.seq
 (rF [2,3] [qI 2 0,
 qB 3 false])
 .ret)))
 (.seq
 (rF [2,3] [qF 7 4 4 1,
 qL 8 7,
 qC 9 155 [8],
 qE 10 9 0,
 qE 11 9 1,
 qM 2 10,
 qM 3 11])
 .ret)))
noncomputable def aDZ:CM prog 112 1 [(0,[1]),(1,[1,6]),(2,[2,3]),(3,[2,3])]:=.mk (m:=aOm) Go.Proofs.Tryz.func112 (by kernel_rfl)
def aPM:MC :=
 (.seq
 (rF [1,2] [oX 2 (.box (.t 0)),
 oQ 4 (.mov (.k (.d (.str [])))),
 qB 5 false])
 (.seq
 (rF [2,6] [qV 7 5 2,
 qM 8 1,
 qC 9 145 [7,8],
 qM 6 9])
 (.seq
 (.seq
 (rF [2,6,16] [qV 10 5 2,
 qC 11 64 [10],
 qU 12 11,
 qM 13 12,
 gM 14 13 false 6,
 oG 15 13 false (.bin .lss (.t 14) (kI 0)),
 qO 16 13 15])
 (cS 16
 (.seq
 (rF [4,5] [oQ 4 (.mov (.k (.d (.str [])))),
 qB 5 false])
 .ret)))
 (.seq
 (rF [4,5] [qF 17 1 1 2,
 qL 18 17,
 qM 19 6,
 qX 20 4 18 19,
 oQ 21 (.ld (some 4) (.t 20)),
 qC 22 156 [21],
 qM 4 22,
 qB 5 true])
 .ret))))
noncomputable def aEg:CM prog 113 2 [(0,[1,2]),(1,[2,6]),(2,[2,6,16]),(3,[4,5]),(4,[4,5])]:=.mk (m:=aPM) Go.Proofs.Tryz.func113 (by kernel_rfl)
def aLJ:MC :=
 (.seq
 (rF [0] [oQ 2 (.mov (.k (.d (.str [])))),
 qB 3 false])
 (.seq
 (.seq
 (rF [0,11] [qM 5 0,
 qN 6 true 5,
 qJ 7 .gtr 6 4000,
 qM 8 7,
 gM 9 8 false 0,
 oH 10 8 false (.call 69 [(.t 9),(.k (.d (.str [35])))]),
 qO 11 8 10])
 (cS 11
 (.seq
 (rF [2,3] [oQ 2 (.mov (.k (.d (.str [])))),
 qB 3 false])
 .ret)))
 (.seq
 (rF [4] [qM 12 0,
 oQ 13 (.bin .add (.t 12) (.k (.d (.str [35])))),
 qM 14 0,
 qC 15 160 [14],
 qC 16 106 [15],
 qT 17 .add 13 16,
 qM 4 17])
 (.seq
 (.seq
 (rF [4,20] [qM 18 4,
 qN 19 true 18,
 qJ 20 .gtr 19 4000])
 (cS 20
 (.seq
 (rF [2,3] [oQ 2 (.mov (.k (.d (.str [])))),
 qB 3 false])
 .ret)))
 (.seq
 (rF [2,3] [qM 21 4,
 qM 2 21,
 qB 3 true])
 .ret)))))
noncomputable def aAA:CM prog 116 1 [(0,[0]),(1,[0,11]),(2,[2,3]),(3,[4]),(4,[4,20]),(5,[2,3]),(6,[2,3])]:=.mk (m:=aLJ) Go.Proofs.Tryz.func116 (by kernel_rfl)
def aP3:MC :=
 (.seq
 (rF [0] [oQ 2 (.mov (.k (.d (.str [])))),
 qB 3 false])
 (.seq
 (rF [0,4] [qM 10 0,
 oX 11 (.call 120 [(.t 10),(.k (.d (.str [35])))]),
 qM 9 11,
 qE 12 9 0,
 qE 13 9 1,
 qE 14 9 2,
 qM 4 12,
 qM 5 13,
 qM 6 14])
 (.seq
 (.seq
 (rF [0,4,7,8] [qM 16 4,
 qC 17 116 [16],
 qM 15 17,
 qE 18 15 0,
 qE 19 15 1,
 qM 7 18,
 qM 8 19])
 (.seq
 (rF [4,26] [qM 20 8,
 qU 21 20,
 qM 22 21,
 gM 23 22 false 7,
 gM 24 22 false 0,
 oG 25 22 false (.bin .neq (.t 23) (.t 24)),
 qO 26 22 25])
 (cS 26
 (.seq
 (rF [2,3] [oQ 2 (.mov (.k (.d (.str [])))),
 qB 3 false])
 .ret))))
 (.seq
 (rF [2,3] [qM 27 4,
 qM 2 27,
 qB 3 true])
 .ret))))
noncomputable def aDW:CM prog 121 1 [(0,[0]),(1,[0,4]),(2,[0,4,7,8]),(3,[4,26]),(4,[2,3]),(5,[2,3])]:=.mk (m:=aP3) Go.Proofs.Tryz.func121 (by kernel_rfl)
def aVE:MC :=
 (.seq
 (rF [0] [qB 2 false])
 (.seq
 (.seq
 (rF [0,3] [qI 3 0])
 (.block 0
 (.loop
 (.seq
 (.seq
 (rF [0,3,8] [qM 5 3,
 qM 6 0,
 qN 7 true 6,
 qT 8 .lss 5 7])
 (cE 8 0))
 (.seq
 (.block 1
 (.seq
 (rF [0,3,4] [qM 11 0,
 qM 12 3,
 oQ 13 (.ix (.t 11) (.t 12)),
 qM 4 13])
 (.seq
 (rF [0,3,33] [qM 14 4,
 qC 15 163 [14],
 qU 16 15,
 qM 17 16,
 gM 18 17 true 4,
 oG 19 17 true (.bin .geq (.t 18) (.k (.d (.int .u8 48)))),
 gM 20 17 true 19,
 gM 21 20 true 4,
 oG 22 20 true (.bin .leq (.t 21) (.k (.d (.int .u8 57)))),
 oG 23 17 true (.pick (.t 20) (.t 22) (kB false)),
 oG 24 17 true (.un .not (.t 23)),
 qA 25 17 24,
 qM 26 25,
 gM 27 26 true 4,
 oG 28 26 true (.bin .neq (.t 27) (.k (.d (.int .u8 32)))),
 qA 29 26 28,
 qM 30 29,
 gM 31 30 true 4,
 oG 32 30 true (.bin .neq (.t 31) (.k (.d (.int .u8 45)))),
 qA 33 30 32])
 (cS 33
 (.seq
 (rF [2] [qB 2 false])
 .ret)))))
 (rF [0,3] [qM 9 3,
 qJ 10 .add 9 1,
 qM 3 10]))))))
 (.seq
 (rF [2] [qM 34 0,
 qN 35 true 34,
 oX 36 (.call 85 [(.t 35),(kI 1),(kI 40)]),
 qM 2 36])
 .ret)))
noncomputable def aRc:CM prog 123 1 [(0,[0]),(1,[0,3]),(2,[0,3,8]),(3,[0,3]),(4,[0,3,4]),(5,[0,3,33]),(6,[2]),(7,[2])]:=.mk (m:=aVE) Go.Proofs.Tryz.func123 (by kernel_rfl)
def aVj:MC :=
 (.seq
 (rF [0,1,2] [qB 6 false])
 (.seq
 (.seq
 (rF [0,1,2,7] [qI 7 0])
 (.block 0
 (.loop
 (.seq
 (.seq
 (rF [0,1,2,7,11] [qM 8 7,
 qM 9 0,
 qN 10 false 9,
 qT 11 .lss 8 10])
 (cE 11 0))
 (.seq
 (.block 1
 (.seq
 (.reg true [0,1,2,7,37] [qM 14 0,
 qM 15 7,
 qX 16 1 14 15,
 qL 17 16,
 qM 18 1,
 qM 19 2,
 oQ 20 (.callP 85 [(.t 17),(.t 18),(.t 19)]),
 qU 21 20,
 qM 22 21,
 gM 23 22 false 7,
 oG 24 22 false (.bin .gtr (.t 23) (kI 0)),
 gM 25 22 false 24,
 gM 26 25 true 0,
 gM 27 25 true 7,
 oG 28 25 true (.bin .sub (.t 27) (kI 1)),
 oG 29 25 true (.ia 1 (.t 26) (.t 28)),
 gL 30 25 true 29,
 gM 31 25 true 0,
 gM 32 25 true 7,
 oG 33 25 true (.ia 1 (.t 31) (.t 32)),
 gL 34 25 true 33,
 oG 35 25 true (.bin .geq (.t 30) (.t 34)),
 oG 36 22 false (.pick (.t 25) (.t 35) (kB false)),
 qO 37 22 36])
 (cS 37
 (.seq
 (rF [6] [qB 6 false])
 .ret))))
 (rF [0,1,2,7] [qM 12 7,
 qJ 13 .add 12 1,
 qM 7 13]))))))
 (.seq
 (rF [6] [qB 6 true])
 .ret)))
noncomputable def aRQ:CM prog 124 3 [(0,[0,1,2]),(1,[0,1,2,7]),(2,[0,1,2,7,11]),(3,[0,1,2,7]),(4,[0,1,2,7,37]),(5,[6]),(6,[6])]:=.mk (m:=aVj) Go.Proofs.Tryz.func124 (by kernel_rfl)
def aU7:MC :=
 (.seq
 (rF [0] [qI 2 0])
 (.seq
 (rF [3] [qM 4 0,
 qC 5 164 [4],
 qM 3 5])
 (.seq
 (.block 0
 (.loop
 (.seq
 (.seq
 (rF [3,8] [qM 6 3,
 qN 7 false 6,
 qJ 8 .gtr 7 1])
 (cE 8 0))
 (.block 1
 (rF [3] [qM 9 3,
 qC 10 165 [9],
 qM 3 10])))))
 (.seq
 (rF [2] [qM 11 3,
 oQ 12 (.ia 1 (.t 11) (kI 0)),
 qL 13 12,
 qM 2 13])
 .ret))))
noncomputable def aQZ:CM prog 125 1 [(0,[0]),(1,[3]),(2,[3,8]),(3,[3]),(4,[2])]:=.mk (m:=aU7) Go.Proofs.Tryz.func125 (by kernel_rfl)
def aV9:MC :=
 (.seq
 (rF [0,1] [qB 4 false])
 (.seq
 (.seq
 (rF [0,1,5] [qI 5 0])
 (.block 0
 (.loop
 (.seq
 (.seq
 (rF [0,1,5,9] [qM 6 5,
 qM 7 0,
 qN 8 false 7,
 qT 9 .lss 6 8])
 (cE 9 0))
 (.seq
 (.block 1
 (.seq
 (rF [0,1,5,17] [qM 12 0,
 qM 13 5,
 qX 14 1 12 13,
 qL 15 14,
 qM 16 1,
 qT 17 .eql 15 16])
 (cS 17
 (.seq
 (rF [4] [qB 4 true])
 .ret))))
 (rF [0,1,5] [qM 10 5,
 qJ 11 .add 10 1,
 qM 5 11]))))))
 (.seq
 (rF [4] [qB 4 false])
 .ret)))
noncomputable def aRp:CM prog 126 2 [(0,[0,1]),(1,[0,1,5]),(2,[0,1,5,9]),(3,[0,1,5]),(4,[0,1,5,17]),(5,[4]),(6,[4])]:=.mk (m:=aV9) Go.Proofs.Tryz.func126 (by kernel_rfl)
def aOZ:MC :=
 (.seq
 (rF [1,2] [oX 2 (.box (.t 0)),
 oQ 4 (.mov (.k (.d (.str [])))),
 qB 5 false])
 (.seq
 (rF [2,6] [qV 7 5 2,
 qM 8 1,
 qC 9 166 [7,8],
 qM 6 9])
 (.seq
 (.seq
 (rF [2,6,16] [qV 10 5 2,
 qC 11 53 [10],
 qU 12 11,
 qM 13 12,
 gM 14 13 false 6,
 oG 15 13 false (.bin .lss (.t 14) (kI 0)),
 qO 16 13 15])
 (cS 16
 (.seq
 (rF [4,5] [oQ 4 (.mov (.k (.d (.str [])))),
 qB 5 false])
 .ret)))
 (.seq
 (rF [4,5] [qF 17 1 1 2,
 qL 18 17,
 qM 19 6,
 qX 20 4 18 19,
 oQ 21 (.ld (some 4) (.t 20)),
 qC 22 167 [21],
 qM 4 22,
 qB 5 true])
 .ret))))
noncomputable def aDG:CM prog 127 2 [(0,[1,2]),(1,[2,6]),(2,[2,6,16]),(3,[4,5]),(4,[4,5])]:=.mk (m:=aOZ) Go.Proofs.Tryz.func127 (by kernel_rfl)
end Go.Pe.Tryz
