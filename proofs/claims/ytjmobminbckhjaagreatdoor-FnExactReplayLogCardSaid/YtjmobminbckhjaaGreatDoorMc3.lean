/-
The compact code of the functions that the law reaches,printed by gen.py,each with the proof that the machine's code is compiled to it.
-/
import Derived.Test.YtjmobminbckhjaaGreatDoorMc1
import Derived.Test.YtjmobminbckhjaaGreatDoorProg
import Derived.KernelRfl
set_option maxRecDepth 100000
namespace Go.Pe.Tryz
open Go.Pe
def m52:MC :=
 (.seq
 (rF [1,2] [oX 1 (.box (.t 0)),
 oX 2 (.alloc (.st (.cons (.int .i64 0) (.cons (.sl true 4 .nil) (.cons (.int .i64 0) (.cons (.int .i64 0) (.cons (.sl true 1 .nil) .nil)))))))])
 (.seq
 (.any [13] [1,2,3] (.q 0 (qF 6 0 0 1) (.q 1 (qL 7 6) (.q 3 (qF 9 2 2 1) (.q 4 (qL 10 9) (.q 5 (qF 11 3 3 1) (.q 6 (qL 12 11) (.q 8 (qF 14 4 4 1) (.q 9 (qL 15 14) (.br (.e 2 (oX 8 (.bs 4 0 (.st (.cons (.int .i64 0) (.cons (.int .i64 0) (.cons (.int .i64 0) (.cons (.sl true 1 .nil) .nil))))) [])) (.br (.e 7 (oX 13 (.bs 1 0 (.str []) [])) (.br (.e 10 (oX 16 (.app 1 16 (.t 13) (.t 15))) (.br (.e 11 (oX 17 (.bld (.cons (.int .i64 0) (.cons (.sl true 4 .nil) (.cons (.int .i64 0) (.cons (.int .i64 0) (.cons (.sl true 1 .nil) .nil))))) [(0,(.t 7)),(1,(.t 8)),(2,(.t 10)),(3,(.t 12)),(4,(.t 16))])) (.e 12 (oX 3 (.alloc (.st (.cons (.int .i64 0) (.cons (.sl true 4 .nil) (.cons (.int .i64 0) (.cons (.int .i64 0) (.cons (.sl true 1 .nil) .nil)))))))) (.e 13 (qS 5 3 17) .done)))
 (.e 12 (oX 3 (.alloc (.st (.cons (.int .i64 0) (.cons (.sl true 4 .nil) (.cons (.int .i64 0) (.cons (.int .i64 0) (.cons (.sl true 1 .nil) .nil)))))))) (.e 11 (oX 17 (.bld (.cons (.int .i64 0) (.cons (.sl true 4 .nil) (.cons (.int .i64 0) (.cons (.int .i64 0) (.cons (.sl true 1 .nil) .nil))))) [(0,(.t 7)),(1,(.t 8)),(2,(.t 10)),(3,(.t 12)),(4,(.t 16))])) (.e 13 (qS 5 3 17) .done)))))
 (.e 12 (oX 3 (.alloc (.st (.cons (.int .i64 0) (.cons (.sl true 4 .nil) (.cons (.int .i64 0) (.cons (.int .i64 0) (.cons (.sl true 1 .nil) .nil)))))))) (.e 10 (oX 16 (.app 1 16 (.t 13) (.t 15))) (.e 11 (oX 17 (.bld (.cons (.int .i64 0) (.cons (.sl true 4 .nil) (.cons (.int .i64 0) (.cons (.int .i64 0) (.cons (.sl true 1 .nil) .nil))))) [(0,(.t 7)),(1,(.t 8)),(2,(.t 10)),(3,(.t 12)),(4,(.t 16))])) (.e 13 (qS 5 3 17) .done))))))
 (.e 12 (oX 3 (.alloc (.st (.cons (.int .i64 0) (.cons (.sl true 4 .nil) (.cons (.int .i64 0) (.cons (.int .i64 0) (.cons (.sl true 1 .nil) .nil)))))))) (.e 7 (oX 13 (.bs 1 0 (.str []) [])) (.e 10 (oX 16 (.app 1 16 (.t 13) (.t 15))) (.e 11 (oX 17 (.bld (.cons (.int .i64 0) (.cons (.sl true 4 .nil) (.cons (.int .i64 0) (.cons (.int .i64 0) (.cons (.sl true 1 .nil) .nil))))) [(0,(.t 7)),(1,(.t 8)),(2,(.t 10)),(3,(.t 12)),(4,(.t 16))])) (.e 13 (qS 5 3 17) .done)))))))
 (.br (.e 7 (oX 13 (.bs 1 0 (.str []) [])) (.br (.e 2 (oX 8 (.bs 4 0 (.st (.cons (.int .i64 0) (.cons (.int .i64 0) (.cons (.int .i64 0) (.cons (.sl true 1 .nil) .nil))))) [])) (.br (.e 10 (oX 16 (.app 1 16 (.t 13) (.t 15))) (.br (.e 11 (oX 17 (.bld (.cons (.int .i64 0) (.cons (.sl true 4 .nil) (.cons (.int .i64 0) (.cons (.int .i64 0) (.cons (.sl true 1 .nil) .nil))))) [(0,(.t 7)),(1,(.t 8)),(2,(.t 10)),(3,(.t 12)),(4,(.t 16))])) (.e 12 (oX 3 (.alloc (.st (.cons (.int .i64 0) (.cons (.sl true 4 .nil) (.cons (.int .i64 0) (.cons (.int .i64 0) (.cons (.sl true 1 .nil) .nil)))))))) (.e 13 (qS 5 3 17) .done)))
 (.e 12 (oX 3 (.alloc (.st (.cons (.int .i64 0) (.cons (.sl true 4 .nil) (.cons (.int .i64 0) (.cons (.int .i64 0) (.cons (.sl true 1 .nil) .nil)))))))) (.e 11 (oX 17 (.bld (.cons (.int .i64 0) (.cons (.sl true 4 .nil) (.cons (.int .i64 0) (.cons (.int .i64 0) (.cons (.sl true 1 .nil) .nil))))) [(0,(.t 7)),(1,(.t 8)),(2,(.t 10)),(3,(.t 12)),(4,(.t 16))])) (.e 13 (qS 5 3 17) .done)))))
 (.e 12 (oX 3 (.alloc (.st (.cons (.int .i64 0) (.cons (.sl true 4 .nil) (.cons (.int .i64 0) (.cons (.int .i64 0) (.cons (.sl true 1 .nil) .nil)))))))) (.e 10 (oX 16 (.app 1 16 (.t 13) (.t 15))) (.e 11 (oX 17 (.bld (.cons (.int .i64 0) (.cons (.sl true 4 .nil) (.cons (.int .i64 0) (.cons (.int .i64 0) (.cons (.sl true 1 .nil) .nil))))) [(0,(.t 7)),(1,(.t 8)),(2,(.t 10)),(3,(.t 12)),(4,(.t 16))])) (.e 13 (qS 5 3 17) .done))))))
 (.br (.e 10 (oX 16 (.app 1 16 (.t 13) (.t 15))) (.br (.e 2 (oX 8 (.bs 4 0 (.st (.cons (.int .i64 0) (.cons (.int .i64 0) (.cons (.int .i64 0) (.cons (.sl true 1 .nil) .nil))))) [])) (.br (.e 11 (oX 17 (.bld (.cons (.int .i64 0) (.cons (.sl true 4 .nil) (.cons (.int .i64 0) (.cons (.int .i64 0) (.cons (.sl true 1 .nil) .nil))))) [(0,(.t 7)),(1,(.t 8)),(2,(.t 10)),(3,(.t 12)),(4,(.t 16))])) (.e 12 (oX 3 (.alloc (.st (.cons (.int .i64 0) (.cons (.sl true 4 .nil) (.cons (.int .i64 0) (.cons (.int .i64 0) (.cons (.sl true 1 .nil) .nil)))))))) (.e 13 (qS 5 3 17) .done)))
 (.e 12 (oX 3 (.alloc (.st (.cons (.int .i64 0) (.cons (.sl true 4 .nil) (.cons (.int .i64 0) (.cons (.int .i64 0) (.cons (.sl true 1 .nil) .nil)))))))) (.e 11 (oX 17 (.bld (.cons (.int .i64 0) (.cons (.sl true 4 .nil) (.cons (.int .i64 0) (.cons (.int .i64 0) (.cons (.sl true 1 .nil) .nil))))) [(0,(.t 7)),(1,(.t 8)),(2,(.t 10)),(3,(.t 12)),(4,(.t 16))])) (.e 13 (qS 5 3 17) .done)))))
 (.e 12 (oX 3 (.alloc (.st (.cons (.int .i64 0) (.cons (.sl true 4 .nil) (.cons (.int .i64 0) (.cons (.int .i64 0) (.cons (.sl true 1 .nil) .nil)))))))) (.e 2 (oX 8 (.bs 4 0 (.st (.cons (.int .i64 0) (.cons (.int .i64 0) (.cons (.int .i64 0) (.cons (.sl true 1 .nil) .nil))))) [])) (.e 11 (oX 17 (.bld (.cons (.int .i64 0) (.cons (.sl true 4 .nil) (.cons (.int .i64 0) (.cons (.int .i64 0) (.cons (.sl true 1 .nil) .nil))))) [(0,(.t 7)),(1,(.t 8)),(2,(.t 10)),(3,(.t 12)),(4,(.t 16))])) (.e 13 (qS 5 3 17) .done))))))
 (.e 12 (oX 3 (.alloc (.st (.cons (.int .i64 0) (.cons (.sl true 4 .nil) (.cons (.int .i64 0) (.cons (.int .i64 0) (.cons (.sl true 1 .nil) .nil)))))))) (.br (.e 2 (oX 8 (.bs 4 0 (.st (.cons (.int .i64 0) (.cons (.int .i64 0) (.cons (.int .i64 0) (.cons (.sl true 1 .nil) .nil))))) [])) (.e 10 (oX 16 (.app 1 16 (.t 13) (.t 15))) (.e 11 (oX 17 (.bld (.cons (.int .i64 0) (.cons (.sl true 4 .nil) (.cons (.int .i64 0) (.cons (.int .i64 0) (.cons (.sl true 1 .nil) .nil))))) [(0,(.t 7)),(1,(.t 8)),(2,(.t 10)),(3,(.t 12)),(4,(.t 16))])) (.e 13 (qS 5 3 17) .done))))
 (.e 10 (oX 16 (.app 1 16 (.t 13) (.t 15))) (.e 2 (oX 8 (.bs 4 0 (.st (.cons (.int .i64 0) (.cons (.int .i64 0) (.cons (.int .i64 0) (.cons (.sl true 1 .nil) .nil))))) [])) (.e 11 (oX 17 (.bld (.cons (.int .i64 0) (.cons (.sl true 4 .nil) (.cons (.int .i64 0) (.cons (.int .i64 0) (.cons (.sl true 1 .nil) .nil))))) [(0,(.t 7)),(1,(.t 8)),(2,(.t 10)),(3,(.t 12)),(4,(.t 16))])) (.e 13 (qS 5 3 17) .done)))))))))
 (.e 12 (oX 3 (.alloc (.st (.cons (.int .i64 0) (.cons (.sl true 4 .nil) (.cons (.int .i64 0) (.cons (.int .i64 0) (.cons (.sl true 1 .nil) .nil)))))))) (.br (.e 2 (oX 8 (.bs 4 0 (.st (.cons (.int .i64 0) (.cons (.int .i64 0) (.cons (.int .i64 0) (.cons (.sl true 1 .nil) .nil))))) [])) (.e 7 (oX 13 (.bs 1 0 (.str []) [])) (.e 10 (oX 16 (.app 1 16 (.t 13) (.t 15))) (.e 11 (oX 17 (.bld (.cons (.int .i64 0) (.cons (.sl true 4 .nil) (.cons (.int .i64 0) (.cons (.int .i64 0) (.cons (.sl true 1 .nil) .nil))))) [(0,(.t 7)),(1,(.t 8)),(2,(.t 10)),(3,(.t 12)),(4,(.t 16))])) (.e 13 (qS 5 3 17) .done)))))
 (.e 7 (oX 13 (.bs 1 0 (.str []) [])) (.br (.e 2 (oX 8 (.bs 4 0 (.st (.cons (.int .i64 0) (.cons (.int .i64 0) (.cons (.int .i64 0) (.cons (.sl true 1 .nil) .nil))))) [])) (.e 10 (oX 16 (.app 1 16 (.t 13) (.t 15))) (.e 11 (oX 17 (.bld (.cons (.int .i64 0) (.cons (.sl true 4 .nil) (.cons (.int .i64 0) (.cons (.int .i64 0) (.cons (.sl true 1 .nil) .nil))))) [(0,(.t 7)),(1,(.t 8)),(2,(.t 10)),(3,(.t 12)),(4,(.t 16))])) (.e 13 (qS 5 3 17) .done))))
 (.e 10 (oX 16 (.app 1 16 (.t 13) (.t 15))) (.e 2 (oX 8 (.bs 4 0 (.st (.cons (.int .i64 0) (.cons (.int .i64 0) (.cons (.int .i64 0) (.cons (.sl true 1 .nil) .nil))))) [])) (.e 11 (oX 17 (.bld (.cons (.int .i64 0) (.cons (.sl true 4 .nil) (.cons (.int .i64 0) (.cons (.int .i64 0) (.cons (.sl true 1 .nil) .nil))))) [(0,(.t 7)),(1,(.t 8)),(2,(.t 10)),(3,(.t 12)),(4,(.t 16))])) (.e 13 (qS 5 3 17) .done)))))))))))))))))))
 (.seq
 (.seq
 (rF [1,2,3,4] [qI 4 0])
 (.block 0
 (.loop
 (.seq
 (.seq
 (rF [1,2,3,4,22] [qM 18 4,
 qF 19 1 1 1,
 qL 20 19,
 qN 21 false 20,
 qT 22 .lss 18 21])
 (cE 22 0))
 (.seq
 (.block 1
 (.seq
 (rF [1,2,3,4,5] [qF 25 1 1 1,
 qL 26 25,
 qM 27 4,
 qX 28 4 26 27,
 oQ 29 (.ld (some 4) (.t 28)),
 oX 5 (.alloc (.st (.cons (.int .i64 0) (.cons (.int .i64 0) (.cons (.int .i64 0) (.cons (.sl true 1 .nil) .nil)))))),
 qS 4 5 29])
 (.any [15] [1,2,3,4] (.q 0 (qF 30 1 1 3) (.q 1 (qL 31 30) (.q 2 (qF 32 0 0 5) (.q 3 (qL 33 32) (.q 4 (qF 34 1 1 5) (.q 5 (qL 35 34) (.q 6 (qF 36 2 2 5) (.q 7 (qL 37 36) (.q 8 (qF 38 3 3 5) (.q 9 (qL 39 38) (.e 10 (qC 40 84 [39]) (.e 11 (oX 41 (.bld (.cons (.int .i64 0) (.cons (.int .i64 0) (.cons (.int .i64 0) (.cons (.sl true 1 .nil) .nil)))) [(0,(.t 33)),(1,(.t 35)),(2,(.t 37)),(3,(.t 40))])) (.e 12 (oX 42 (.bs 4 1 (.st (.cons (.int .i64 0) (.cons (.int .i64 0) (.cons (.int .i64 0) (.cons (.sl true 1 .nil) .nil))))) [(0,(.t 41))])) (.e 13 (oX 43 (.app 4 48 (.t 31) (.t 42))) (.q 14 (qF 44 1 1 3) (.e 15 (qS 1 44 43) .done)))))))))))))))))))
 (rF [1,2,3,4] [qM 23 4,
 qJ 24 .add 23 1,
 qM 4 24]))))))
 (.seq
 (rF [2] [qV 45 5 3,
 qS 5 2 45])
 .ret))))
noncomputable def aVk:CM prog 52 1 [(0,[1,2]),(1,[1,2,3]),(2,[1,2,3,4]),(3,[1,2,3,4,22]),(4,[1,2,3,4]),(5,[1,2,3,4,5]),(6,[1,2,3,4]),(7,[2]),(1000001,[1,13,1,0,1,1,1,3,1,4,1,5,1,6,1,8,1,9,3,2,2,3,2,7,3,2,10,3,2,11,2,12,2,13,0,2,12,2,11,2,13,0,2,12,2,10,2,11,2,13,0,2,12,2,7,2,10,2,11,2,13,0,3,2,7,3,2,2,3,2,10,3,2,11,2,12,2,13,0,2,12,2,11,2,13,0,2,12,2,10,2,11,2,13,0,3,2,10,3,2,2,3,2,11,2,12,2,13,0,2,12,2,11,2,13,0,2,12,2,2,2,11,2,13,0,2,12,3,2,2,2,10,2,11,2,13,0,2,10,2,2,2,11,2,13,0,2,12,3,2,2,2,7,2,10,2,11,2,13,0,2,7,3,2,2,2,10,2,11,2,13,0,2,10,2,2,2,11,2,13,0]),(1000006,[1,15,1,0,1,1,1,2,1,3,1,4,1,5,1,6,1,7,1,8,1,9,2,10,2,11,2,12,2,13,1,14,2,15,0])]:=.mk (m:=m52) Go.Proofs.Tryz.func52 (by kernel_rfl)
def m53:MC :=
 (.seq
 (rF [1] [oX 1 (.box (.t 0)),
 qB 2 false])
 (.seq
 (.seq
 (rF [1,37] [qF 4 0 0 1,
 qL 5 4,
 qC 6 79 [5],
 qU 7 6,
 qM 8 7,
 gF 9 8 false 1 1 1,
 gL 10 8 false 9,
 oG 11 8 false (.len false (.t 10)),
 oG 12 8 false (.bin .gtr (.t 11) (kI 6)),
 qO 13 8 12,
 qM 14 13,
 gF 15 14 false 2 2 1,
 gL 16 14 false 15,
 oH 17 14 false (.call 85 [(.t 16),(kI 0),(kI 999)]),
 oG 18 14 false (.un .not (.t 17)),
 qO 19 14 18,
 qM 20 19,
 gF 21 20 false 3 3 1,
 gL 22 20 false 21,
 oH 23 20 false (.call 85 [(.t 22),(kI 0),(kI 999)]),
 oG 24 20 false (.un .not (.t 23)),
 qO 25 20 24,
 qM 26 25,
 gF 27 26 false 4 4 1,
 gL 28 26 false 27,
 oG 29 26 false (.len false (.t 28)),
 oG 30 26 false (.bin .gtr (.t 29) (kI 0)),
 gM 31 26 false 30,
 gF 32 31 true 4 4 1,
 gL 33 31 true 32,
 oH 34 31 true (.call 86 [(.t 33)]),
 oG 35 31 true (.un .not (.t 34)),
 oG 36 26 false (.pick (.t 31) (.t 35) (kB false)),
 qO 37 26 36])
 (cS 37
 (.seq
 (rF [2] [qB 2 false])
 .ret)))
 (.seq
 (.seq
 (rF [1,3] [qI 3 0])
 (.block 0
 (.loop
 (.seq
 (.seq
 (rF [1,3,42] [qM 38 3,
 qF 39 1 1 1,
 qL 40 39,
 qN 41 false 40,
 qT 42 .lss 38 41])
 (cE 42 0))
 (.seq
 (.block 1
 (.seq
 (.reg true [1,3,71] [qF 45 1 1 1,
 qL 46 45,
 qM 47 3,
 qX 48 4 46 47,
 oQ 49 (.ld (some 4) (.t 48)),
 oQ 50 (.callP 87 [(.t 49)]),
 qU 51 50,
 qM 52 51,
 gM 53 52 false 3,
 oG 54 52 false (.bin .gtr (.t 53) (kI 0)),
 gM 55 52 false 54,
 gF 56 55 true 1 1 1,
 gL 57 55 true 56,
 gM 58 55 true 3,
 oG 59 55 true (.bin .sub (.t 58) (kI 1)),
 oG 60 55 true (.ia 4 (.t 57) (.t 59)),
 gF 61 55 true 0 0 60,
 gL 62 55 true 61,
 gF 63 55 true 1 1 1,
 gL 64 55 true 63,
 gM 65 55 true 3,
 oG 66 55 true (.ia 4 (.t 64) (.t 65)),
 gF 67 55 true 0 0 66,
 gL 68 55 true 67,
 oG 69 55 true (.bin .geq (.t 62) (.t 68)),
 oG 70 52 false (.pick (.t 55) (.t 69) (kB false)),
 qO 71 52 70])
 (cS 71
 (.seq
 (rF [2] [qB 2 false])
 .ret))))
 (rF [1,3] [qM 43 3,
 qJ 44 .add 43 1,
 qM 3 44]))))))
 (.seq
 (rF [2] [qB 2 true])
 .ret))))
noncomputable def aPb:CM prog 53 1 [(0,[1]),(1,[1,37]),(2,[2]),(3,[1,3]),(4,[1,3,42]),(5,[1,3]),(6,[1,3,71]),(7,[2]),(8,[2])]:=.mk (m:=m53) Go.Proofs.Tryz.func53 (by kernel_rfl)
def m54:MC :=
 (.seq
 (rF [0,1] [qB 4 false])
 (.seq
 (.seq
 (rF [0,1,5] [qI 5 0])
 (.block 0
 (.loop
 (.seq
 (.seq
 (rF [0,1,5,9] [qM 6 5,
 qM 7 0,
 qN 8 true 7,
 qT 9 .lss 6 8])
 (cE 9 0))
 (.seq
 (.block 1
 (.seq
 (rF [0,1,5,23] [qM 12 0,
 qM 13 5,
 oQ 14 (.ix (.t 12) (.t 13)),
 oQ 15 (.conv .i64 (.t 14)),
 oX 16 (.call 85 [(.t 15),(kI 32),(kI 126)]),
 qU 17 16,
 qM 18 17,
 gM 19 18 false 0,
 gM 20 18 false 5,
 oG 21 18 false (.ix (.t 19) (.t 20)),
 oG 22 18 false (.bin .eql (.t 21) (.k (.d (.int .u8 35)))),
 qO 23 18 22])
 (cS 23
 (.seq
 (rF [4] [qB 4 false])
 .ret))))
 (rF [0,1,5] [qM 10 5,
 qJ 11 .add 10 1,
 qM 5 11]))))))
 (.seq
 (rF [4] [qM 24 0,
 qN 25 true 24,
 qM 26 1,
 qT 27 .leq 25 26,
 qM 4 27])
 .ret)))
noncomputable def aUk:CM prog 54 2 [(0,[0,1]),(1,[0,1,5]),(2,[0,1,5,9]),(3,[0,1,5]),(4,[0,1,5,23]),(5,[4]),(6,[4])]:=.mk (m:=m54) Go.Proofs.Tryz.func54 (by kernel_rfl)
def m55:MC :=
 (.seq
 (rF [0,1] [qB 4 false])
 (.seq
 (.seq
 (rF [0,1,5] [qI 5 0])
 (.block 0
 (.loop
 (.seq
 (.seq
 (rF [0,1,5,9] [qM 6 5,
 qM 7 0,
 qN 8 true 7,
 qT 9 .lss 6 8])
 (cE 9 0))
 (.seq
 (.block 1
 (.seq
 (rF [0,1,5,16] [qM 12 0,
 qM 13 5,
 oQ 14 (.ix (.t 12) (.t 13)),
 qM 15 1,
 qT 16 .eql 14 15])
 (cS 16
 (.seq
 (rF [4] [qB 4 true])
 .ret))))
 (rF [0,1,5] [qM 10 5,
 qJ 11 .add 10 1,
 qM 5 11]))))))
 (.seq
 (rF [4] [qB 4 false])
 .ret)))
noncomputable def aVT:CM prog 55 2 [(0,[0,1]),(1,[0,1,5]),(2,[0,1,5,9]),(3,[0,1,5]),(4,[0,1,5,16]),(5,[4]),(6,[4])]:=.mk (m:=m55) Go.Proofs.Tryz.func55 (by kernel_rfl)
def m56:MC :=
 (.seq
 (rF [0] [qI 2 0,
 qB 3 false])
 (.seq
 (rF [2,3] [qM 4 0,
 qC 5 88 [4],
 qE 6 5 0,
 qE 7 5 1,
 qM 2 6,
 qM 3 7])
 .ret))
noncomputable def aV2:CM prog 56 1 [(0,[0]),(1,[2,3])]:=.mk (m:=m56) Go.Proofs.Tryz.func56 (by kernel_rfl)
def m57:MC :=
 (.seq
 (rF [1,2] [oX 2 (.box (.t 0)),
 oQ 4 (.mov (.k (.d (.str []))))])
 (.seq
 (.seq
 (rF [2,11] [qM 11 1])
 (.block 0
 (.seq
 (rF [2,11,12] [oQ 13 (.bin .eql (.t 11) (.k (.d (.str [100,97,121])))),
 qM 12 13])
 (.cond (.t 12)
 (.seq
 (rF [4] [qF 14 0 0 2,
 qL 15 14,
 qC 16 89 [15],
 qM 4 16])
 .ret)
 (.seq
 (rF [2,11,17] [oQ 18 (.bin .eql (.t 11) (.k (.d (.str [100,117,101])))),
 qM 17 18])
 (.cond (.t 17)
 (.seq
 (rF [5,6] [qV 20 5 2,
 qC 21 90 [20],
 qM 19 21,
 qE 22 19 0,
 qE 23 19 1,
 qM 5 22,
 qM 6 23])
 (.seq
 (rF [4] [qM 24 5,
 qM 25 6,
 qC 26 91 [24,25],
 qM 4 26])
 .ret))
 (.seq
 (rF [2,11,27] [oQ 28 (.bin .eql (.t 11) (.k (.d (.str [98,108,111,99,107,101,100])))),
 qM 27 28])
 (.cond (.t 27)
 (.seq
 (rF [7,8] [qV 30 5 2,
 qC 31 92 [30],
 qM 29 31,
 qE 32 29 0,
 qE 33 29 1,
 qM 7 32,
 qM 8 33])
 (.seq
 (rF [4] [qM 34 7,
 qM 35 8,
 qC 36 91 [34,35],
 qM 4 36])
 .ret))
 (.seq
 (rF [2,37] [oQ 38 (.bin .eql (.t 11) (.k (.d (.str [114,111,111,116])))),
 qM 37 38])
 (cS 37
 (.seq
 (rF [9,10] [qV 40 5 2,
 qC 41 93 [40],
 qM 39 41,
 qE 42 39 0,
 qE 43 39 1,
 qM 9 42,
 qM 10 43])
 (.seq
 (rF [9,44] [qM 44 10])
 (cS 44
 (.seq
 (rF [4] [qM 45 9,
 qC 46 89 [45],
 qM 4 46])
 .ret))))))))))))))
 (.seq
 (rF [4] [oQ 4 (.mov (.k (.d (.str [63]))))])
 .ret)))
noncomputable def aAQ:CM prog 57 2 [(0,[1,2]),(1,[2,11]),(2,[2,11,12]),(3,[4]),(4,[2,11,17]),(5,[5,6]),(6,[4]),(7,[2,11,27]),(8,[7,8]),(9,[4]),(10,[2,37]),(11,[9,10]),(12,[9,44]),(13,[4]),(14,[4])]:=.mk (m:=m57) Go.Proofs.Tryz.func57 (by kernel_rfl)
def m58:MC :=
 (.seq
 (rF [1,2,3,6] [oX 3 (.box (.t 0)),
 oX 6 (.alloc (.st (.cons (.st (.cons (.int .i64 0) (.cons (.sl true 4 .nil) (.cons (.int .i64 0) (.cons (.int .i64 0) (.cons (.sl true 1 .nil) .nil)))))) (.cons (.st (.cons (.str []) (.cons (.str []) (.cons (.int .i64 0) .nil)))) .nil)))),
 oQ 7 (.mov (.k (.d (.str []))))])
 (.seq
 (.seq
 (rF [2,3,6,10] [qM 10 1])
 (.block 0
 (.seq
 (rF [2,3,6,10,11] [oQ 12 (.bin .eql (.t 10) (.k (.d (.str [119,97,105,116])))),
 qM 11 12])
 (.cond (.t 11)
 (.seq
 (rF [6,7] [qV 13 8 3,
 qM 14 2,
 oX 15 (.bld (.cons (.int .i64 0) (.cons (.int .i64 0) (.cons (.int .i64 0) (.cons (.int .i64 0) .nil)))) [(0,(kI 1)),(3,(.t 14))]),
 qC 16 60 [13,15],
 qE 17 16 0,
 qE 18 16 1,
 qS 8 6 17,
 qM 7 18])
 .ret)
 (.seq
 (rF [2,3,6,10,19] [oQ 20 (.bin .eql (.t 10) (.k (.d (.str [114,101,108,101,97,115,101])))),
 qM 19 20])
 (.cond (.t 19)
 (.seq
 (rF [6,7] [qV 21 8 3,
 qM 22 2,
 oX 23 (.bld (.cons (.int .i64 0) (.cons (.int .i64 0) (.cons (.int .i64 0) (.cons (.int .i64 0) .nil)))) [(0,(kI 4)),(3,(.t 22))]),
 qC 24 60 [21,23],
 qE 25 24 0,
 qE 26 24 1,
 qS 8 6 25,
 qM 7 26])
 .ret)
 (.seq
 (rF [2,3,6,10,27] [oQ 28 (.bin .eql (.t 10) (.k (.d (.str [97,99,116])))),
 qM 27 28])
 (.cond (.t 27)
 (.seq
 (rF [6,7] [qV 29 8 3,
 qM 30 2,
 oX 31 (.bld (.cons (.int .i64 0) (.cons (.int .i64 0) (.cons (.int .i64 0) (.cons (.int .i64 0) .nil)))) [(0,(kI 6)),(1,(.t 30))]),
 qC 32 60 [29,31],
 qE 33 32 0,
 qE 34 32 1,
 qS 8 6 33,
 qM 7 34])
 .ret)
 (.seq
 (rF [2,3,6,10,35] [oQ 36 (.bin .eql (.t 10) (.k (.d (.str [104,101,108,100])))),
 qM 35 36])
 (.cond (.t 35)
 (.seq
 (rF [3,6,8,9] [qF 38 0 0 3,
 qV 39 5 38,
 qM 40 2,
 qC 41 94 [39,40],
 qM 37 41,
 qE 42 37 0,
 qE 43 37 1,
 qM 8 42,
 qM 9 43])
 (.seq
 (.any [4,5] [6,7] (.q 1 (qM 45 8) (.q 2 (qM 46 9) (.br (.e 0 (qV 44 8 3) (.e 3 (qC 47 91 [45,46]) (.e 4 (qS 8 6 44) (.e 5 (qM 7 47) .done))))
 (.e 3 (qC 47 91 [45,46]) (.e 0 (qV 44 8 3) (.e 4 (qS 8 6 44) (.e 5 (qM 7 47) .done))))))))
 .ret))
 (.seq
 (rF [2,3,6,48] [oQ 49 (.bin .eql (.t 10) (.k (.d (.str [99,97,115,101])))),
 qM 48 49])
 (cS 48
 (.seq
 (.any [5,6] [6,7] (.q 1 (qF 51 0 0 3) (.q 3 (qM 53 2) (.br (.e 0 (qV 50 8 3) (.e 2 (qV 52 5 51) (.e 4 (qC 54 95 [52,53]) (.e 5 (qS 8 6 50) (.e 6 (qM 7 54) .done)))))
 (.e 2 (qV 52 5 51) (.br (.e 0 (qV 50 8 3) (.e 4 (qC 54 95 [52,53]) (.e 5 (qS 8 6 50) (.e 6 (qM 7 54) .done))))
 (.e 4 (qC 54 95 [52,53]) (.e 0 (qV 50 8 3) (.e 5 (qS 8 6 50) (.e 6 (qM 7 54) .done))))))))))
 .ret)))))))))))))
 (.seq
 (rF [6,7] [qV 55 8 3,
 qS 8 6 55,
 oQ 7 (.mov (.k (.d (.str [63]))))])
 .ret)))
noncomputable def aAR:CM prog 58 3 [(0,[1,2,3,6]),(1,[2,3,6,10]),(2,[2,3,6,10,11]),(3,[6,7]),(4,[2,3,6,10,19]),(5,[6,7]),(6,[2,3,6,10,27]),(7,[6,7]),(8,[2,3,6,10,35]),(9,[3,6,8,9]),(10,[6,7]),(11,[2,3,6,48]),(12,[6,7]),(13,[6,7]),(1000010,[2,4,5,1,1,1,2,3,2,0,2,3,2,4,2,5,0,2,3,2,0,2,4,2,5,0]),(1000012,[2,5,6,1,1,1,3,3,2,0,2,2,2,4,2,5,2,6,0,2,2,3,2,0,2,4,2,5,2,6,0,2,4,2,0,2,5,2,6,0])]:=.mk (m:=m58) Go.Proofs.Tryz.func58 (by kernel_rfl)
def m59:MC :=
 (.seq
 (rF [1,2,3,4,8] [oX 4 (.box (.t 0)),
 oX 8 (.alloc (.st (.cons (.st (.cons (.int .i64 0) (.cons (.sl true 4 .nil) (.cons (.int .i64 0) (.cons (.int .i64 0) (.cons (.sl true 1 .nil) .nil)))))) (.cons (.st (.cons (.str []) (.cons (.str []) (.cons (.int .i64 0) .nil)))) .nil)))),
 oQ 9 (.mov (.k (.d (.str []))))])
 (.seq
 (.seq
 (rF [2,3,4,8,10] [qM 10 1])
 (.block 0
 (.seq
 (rF [2,3,4,8,10,11] [oQ 12 (.bin .eql (.t 10) (.k (.d (.str [104,111,108,100])))),
 qM 11 12])
 (.cond (.t 11)
 (.seq
 (rF [8,9] [qV 13 8 4,
 qM 14 2,
 qM 15 3,
 oX 16 (.bld (.cons (.int .i64 0) (.cons (.int .i64 0) (.cons (.int .i64 0) (.cons (.int .i64 0) .nil)))) [(0,(kI 3)),(1,(.t 14)),(3,(.t 15))]),
 qC 17 60 [13,16],
 qE 18 17 0,
 qE 19 17 1,
 qS 8 8 18,
 qM 9 19])
 .ret)
 (.seq
 (rF [2,3,4,8,20] [oQ 21 (.bin .eql (.t 10) (.k (.d (.str [100,101,108,97,121])))),
 qM 20 21])
 (cS 20
 (.seq
 (rF [8,9] [qV 22 8 4,
 qM 23 2,
 qM 24 3,
 oX 25 (.bld (.cons (.int .i64 0) (.cons (.int .i64 0) (.cons (.int .i64 0) (.cons (.int .i64 0) .nil)))) [(0,(kI 5)),(1,(.t 23)),(3,(.t 24))]),
 qC 26 60 [22,25],
 qE 27 26 0,
 qE 28 26 1,
 qS 8 8 27,
 qM 9 28])
 .ret)))))))
 (.seq
 (rF [8,9] [qV 29 8 4,
 qS 8 8 29,
 oQ 9 (.mov (.k (.d (.str [63]))))])
 .ret)))
noncomputable def aJ2:CM prog 59 4 [(0,[1,2,3,4,8]),(1,[2,3,4,8,10]),(2,[2,3,4,8,10,11]),(3,[8,9]),(4,[2,3,4,8,20]),(5,[8,9]),(6,[8,9])]:=.mk (m:=m59) Go.Proofs.Tryz.func59 (by kernel_rfl)
def m60:MC :=
 (.seq
 (rF [2,3,4] [oX 2 (.box (.t 0)),
 oX 3 (.box (.t 1)),
 oX 4 (.alloc (.st (.cons (.st (.cons (.int .i64 0) (.cons (.sl true 4 .nil) (.cons (.int .i64 0) (.cons (.int .i64 0) (.cons (.sl true 1 .nil) .nil)))))) (.cons (.st (.cons (.str []) (.cons (.str []) (.cons (.int .i64 0) .nil)))) .nil)))),
 oQ 5 (.mov (.k (.d (.str []))))])
 (.seq
 (rF [2,3,4,6,7] [qF 12 0 0 2,
 qV 13 5 12,
 oQ 14 (.ld (some 4) (.t 3)),
 qC 15 96 [13,14],
 qM 11 15,
 qE 16 11 0,
 qE 17 11 1,
 oX 6 (.alloc (.st (.cons (.int .i64 0) (.cons (.sl true 4 .nil) (.cons (.int .i64 0) (.cons (.int .i64 0) (.cons (.sl true 1 .nil) .nil))))))),
 qS 5 6 16,
 qM 7 17])
 (.seq
 (.seq
 (rF [2,3,4,6,19] [qM 18 7,
 qU 19 18])
 (cS 19
 (.seq
 (rF [4,5] [qV 20 8 2,
 qS 8 4 20,
 oQ 5 (.mov (.k (.d (.str [63]))))])
 .ret)))
 (.seq
 (rF [2,3,4,6,8] [qV 21 8 2,
 oX 8 (.alloc (.st (.cons (.st (.cons (.int .i64 0) (.cons (.sl true 4 .nil) (.cons (.int .i64 0) (.cons (.int .i64 0) (.cons (.sl true 1 .nil) .nil)))))) (.cons (.st (.cons (.str []) (.cons (.str []) (.cons (.int .i64 0) .nil)))) .nil)))),
 qS 8 8 21])
 (.seq
 (rF [2,3,4,6,8] [qV 22 5 6,
 qF 23 0 0 8,
 qS 5 23 22])
 (.seq
 (.seq
 (rF [2,3,4,6,8,25] [qF 24 0 0 3,
 qL 25 24])
 (.block 0
 (.seq
 (rF [2,3,4,6,8,25,26] [qJ 27 .eql 25 1,
 qM 26 27])
 (.cond (.t 26)
 (.seq
 (.any [4,5] [4,5] (.q 1 (qF 29 0 0 6) (.br (.e 0 (qV 28 8 8) (.e 2 (qL 30 29) (.e 3 (qC 31 89 [30]) (.e 4 (qS 8 4 28) (.e 5 (qM 5 31) .done)))))
 (.e 2 (qL 30 29) (.br (.e 0 (qV 28 8 8) (.e 3 (qC 31 89 [30]) (.e 4 (qS 8 4 28) (.e 5 (qM 5 31) .done))))
 (.e 3 (qC 31 89 [30]) (.e 0 (qV 28 8 8) (.e 4 (qS 8 4 28) (.e 5 (qM 5 31) .done)))))))))
 .ret)
 (.seq
 (rF [2,3,4,6,8,25,32] [qJ 33 .eql 25 4,
 qM 32 33])
 (.cond (.t 32)
 (.seq
 (rF [4,8,9,10] [qF 35 0 0 2,
 qV 36 5 35,
 qF 37 3 3 3,
 qL 38 37,
 qC 39 94 [36,38],
 qM 34 39,
 qE 40 34 0,
 qE 41 34 1,
 qM 9 40,
 qM 10 41])
 (.seq
 (.any [4,5] [4,5] (.q 1 (qM 43 9) (.q 2 (qM 44 10) (.br (.e 0 (qV 42 8 8) (.e 3 (qC 45 91 [43,44]) (.e 4 (qS 8 4 42) (.e 5 (qM 5 45) .done))))
 (.e 3 (qC 45 91 [43,44]) (.e 0 (qV 42 8 8) (.e 4 (qS 8 4 42) (.e 5 (qM 5 45) .done))))))))
 .ret))
 (.seq
 (rF [3,4,6,8,46] [qJ 47 .eql 25 6,
 qM 46 47])
 (cS 46
 (.seq
 (.any [] [4,5] (.q 1 (qF 49 2 2 6) (.q 2 (qL 50 49) (.q 3 (qF 51 3 3 6) (.q 4 (qL 52 51) (.q 5 (qF 53 4 4 6) (.q 6 (qL 54 53) (.q 7 (qN 55 false 54) (.br (.e 0 (qV 48 8 8) (.e 8 (oX 56 (.bs 1 3 (.int .i64 0) [(0,(.t 50)),(1,(.t 52)),(2,(.t 55))])) (.e 9 (oX 57 (.call 91 [(.t 56),(kB true)])) (.e 10 (qS 8 4 48) (.q 11 (qM 5 57) .done)))))
 (.e 8 (oX 56 (.bs 1 3 (.int .i64 0) [(0,(.t 50)),(1,(.t 52)),(2,(.t 55))])) (.br (.e 0 (qV 48 8 8) (.e 9 (oX 57 (.call 91 [(.t 56),(kB true)])) (.e 10 (qS 8 4 48) (.q 11 (qM 5 57) .done))))
 (.e 9 (oX 57 (.call 91 [(.t 56),(kB true)])) (.e 0 (qV 48 8 8) (.e 10 (qS 8 4 48) (.q 11 (qM 5 57) .done)))))))))))))))
 .ret)))))))))
 (.seq
 (.any [5,6] [4,5] (.q 2 (qF 60 1 1 3) (.br (.e 0 (qV 58 8 8) (.br (.e 1 (qV 59 5 6) (.e 3 (qL 61 60) (.e 4 (qC 62 95 [59,61]) (.e 5 (qS 8 4 58) (.e 6 (qM 5 62) .done)))))
 (.e 3 (qL 61 60) (.e 1 (qV 59 5 6) (.e 4 (qC 62 95 [59,61]) (.e 5 (qS 8 4 58) (.e 6 (qM 5 62) .done)))))))
 (.br (.e 1 (qV 59 5 6) (.br (.e 0 (qV 58 8 8) (.e 3 (qL 61 60) (.e 4 (qC 62 95 [59,61]) (.e 5 (qS 8 4 58) (.e 6 (qM 5 62) .done)))))
 (.e 3 (qL 61 60) (.br (.e 0 (qV 58 8 8) (.e 4 (qC 62 95 [59,61]) (.e 5 (qS 8 4 58) (.e 6 (qM 5 62) .done))))
 (.e 4 (qC 62 95 [59,61]) (.e 0 (qV 58 8 8) (.e 5 (qS 8 4 58) (.e 6 (qM 5 62) .done))))))))
 (.e 3 (qL 61 60) (.br (.e 0 (qV 58 8 8) (.e 1 (qV 59 5 6) (.e 4 (qC 62 95 [59,61]) (.e 5 (qS 8 4 58) (.e 6 (qM 5 62) .done)))))
 (.e 1 (qV 59 5 6) (.br (.e 0 (qV 58 8 8) (.e 4 (qC 62 95 [59,61]) (.e 5 (qS 8 4 58) (.e 6 (qM 5 62) .done))))
 (.e 4 (qC 62 95 [59,61]) (.e 0 (qV 58 8 8) (.e 5 (qS 8 4 58) (.e 6 (qM 5 62) .done))))))))))))
 .ret)))))))
noncomputable def aO4:CM prog 60 2 [(0,[2,3,4]),(1,[2,3,4,6,7]),(2,[2,3,4,6,19]),(3,[4,5]),(4,[2,3,4,6,8]),(5,[2,3,4,6,8]),(6,[2,3,4,6,8,25]),(7,[2,3,4,6,8,25,26]),(8,[4,5]),(9,[2,3,4,6,8,25,32]),(10,[4,8,9,10]),(11,[4,5]),(12,[3,4,6,8,46]),(13,[4,5]),(14,[4,5]),(1000008,[2,4,5,1,1,3,2,0,2,2,2,3,2,4,2,5,0,2,2,3,2,0,2,3,2,4,2,5,0,2,3,2,0,2,4,2,5,0]),(1000011,[2,4,5,1,1,1,2,3,2,0,2,3,2,4,2,5,0,2,3,2,0,2,4,2,5,0]),(1000013,[0,1,1,1,2,1,3,1,4,1,5,1,6,1,7,3,2,0,2,8,2,9,2,10,1,11,0,2,8,3,2,0,2,9,2,10,1,11,0,2,9,2,0,2,10,1,11,0]),(1000014,[2,5,6,1,2,3,2,0,3,2,1,2,3,2,4,2,5,2,6,0,2,3,2,1,2,4,2,5,2,6,0,3,2,1,3,2,0,2,3,2,4,2,5,2,6,0,2,3,3,2,0,2,4,2,5,2,6,0,2,4,2,0,2,5,2,6,0,2,3,3,2,0,2,1,2,4,2,5,2,6,0,2,1,3,2,0,2,4,2,5,2,6,0,2,4,2,0,2,5,2,6,0])]:=.mk (m:=m60) Go.Proofs.Tryz.func60 (by kernel_rfl)
end Go.Pe.Tryz
