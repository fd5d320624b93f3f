/-
The compact code of the functions that the law reaches,printed by gen.py,each with the proof that the machine's code is compiled to it.
-/
import Derived.Test.YtjmobminbckhjaaGreatDoorMc1
import Derived.Test.YtjmobminbckhjaaGreatDoorProg
import Derived.KernelRfl
set_option maxRecDepth 100000
namespace Go.Pe.Tryz
open Go.Pe
def aVu:MC :=
 (.seq
 (rF [2,3,4] [oX 2 (.box (.t 0)),
 oX 3 (.box (.t 1)),
 oX 4 (.alloc (.st (.cons (.int .i64 0) (.cons (.sl true 4 .nil) (.cons (.int .i64 0) (.cons (.int .i64 0) (.cons (.sl true 1 .nil) .nil)))))))])
 (.seq
 (rF [2,3,4,5] [qV 8 5 2,
 qC 9 52 [8],
 oX 5 (.alloc (.st (.cons (.int .i64 0) (.cons (.sl true 4 .nil) (.cons (.int .i64 0) (.cons (.int .i64 0) (.cons (.sl true 1 .nil) .nil))))))),
 qS 5 5 9])
 (.seq
 (rF [2,3,4,5,6] [qI 6 0])
 (.seq
 (.block 0
 (.loop
 (.seq
 (.seq
 (.reg true [2,3,4,5,6,25] [qM 10 6,
 qF 11 1 1 5,
 qL 12 11,
 qN 13 false 12,
 qT 14 .lss 10 13,
 qM 15 14,
 gF 16 15 true 1 1 5,
 gL 17 15 true 16,
 gM 18 15 true 6,
 oG 19 15 true (.ia 4 (.t 17) (.t 18)),
 gF 20 15 true 0 0 19,
 gL 21 15 true 20,
 gF 22 15 true 1 1 3,
 gL 23 15 true 22,
 oG 24 15 true (.bin .lss (.t 21) (.t 23)),
 qA 25 15 24])
 (cE 25 0))
 (.block 1
 (rF [2,3,4,5,6] [qM 26 6,
 qJ 27 .add 26 1,
 qM 6 27])))))
 (.seq
 (rF [4,5,6,7] [qF 28 1 1 3,
 qL 29 28,
 qF 30 2 2 3,
 qL 31 30,
 qF 32 0 0 2,
 qL 33 32,
 qF 34 3 3 3,
 qL 35 34,
 qT 36 .add 33 35,
 oX 37 (.bs 1 0 (.int .i64 0) []),
 oX 38 (.bld (.cons (.int .i64 0) (.cons (.int .i64 0) (.cons (.int .i64 0) (.cons (.sl true 1 .nil) .nil)))) [(0,(.t 29)),(1,(.t 31)),(2,(.t 36)),(3,(.t 37))]),
 oX 7 (.alloc (.st (.cons (.int .i64 0) (.cons (.int .i64 0) (.cons (.int .i64 0) (.cons (.sl true 1 .nil) .nil)))))),
 qS 4 7 38])
 (.seq
 (.any [15] [4,5] (.q 1 (qF 40 1 1 5) (.q 2 (qL 41 40) (.q 3 (qM 42 6) (.q 4 (oQ 43 (.slx 4 (.t 41) none (some (.t 42)))) (.q 6 (oQ 45 (.ld (some 4) (.t 7))) (.q 9 (qF 48 1 1 5) (.q 10 (qL 49 48) (.q 11 (qM 50 6) (.q 12 (oQ 51 (.slx 4 (.t 49) (some (.t 50)) none)) (.br (.e 0 (oX 39 (.bs 4 0 (.st (.cons (.int .i64 0) (.cons (.int .i64 0) (.cons (.int .i64 0) (.cons (.sl true 1 .nil) .nil))))) [])) (.br (.e 5 (oX 44 (.app 4 48 (.t 39) (.t 43))) (.e 7 (oX 46 (.bs 4 1 (.st (.cons (.int .i64 0) (.cons (.int .i64 0) (.cons (.int .i64 0) (.cons (.sl true 1 .nil) .nil))))) [(0,(.t 45))])) (.e 8 (oX 47 (.app 4 48 (.t 44) (.t 46))) (.e 13 (oX 52 (.app 4 48 (.t 47) (.t 51))) (.q 14 (qF 53 1 1 5) (.e 15 (qS 1 53 52) .done))))))
 (.e 7 (oX 46 (.bs 4 1 (.st (.cons (.int .i64 0) (.cons (.int .i64 0) (.cons (.int .i64 0) (.cons (.sl true 1 .nil) .nil))))) [(0,(.t 45))])) (.e 5 (oX 44 (.app 4 48 (.t 39) (.t 43))) (.e 8 (oX 47 (.app 4 48 (.t 44) (.t 46))) (.e 13 (oX 52 (.app 4 48 (.t 47) (.t 51))) (.q 14 (qF 53 1 1 5) (.e 15 (qS 1 53 52) .done))))))))
 (.e 7 (oX 46 (.bs 4 1 (.st (.cons (.int .i64 0) (.cons (.int .i64 0) (.cons (.int .i64 0) (.cons (.sl true 1 .nil) .nil))))) [(0,(.t 45))])) (.e 0 (oX 39 (.bs 4 0 (.st (.cons (.int .i64 0) (.cons (.int .i64 0) (.cons (.int .i64 0) (.cons (.sl true 1 .nil) .nil))))) [])) (.e 5 (oX 44 (.app 4 48 (.t 39) (.t 43))) (.e 8 (oX 47 (.app 4 48 (.t 44) (.t 46))) (.e 13 (oX 52 (.app 4 48 (.t 47) (.t 51))) (.q 14 (qF 53 1 1 5) (.e 15 (qS 1 53 52) .done))))))))))))))))))
 (.seq
 (rF [4] [qV 54 5 5,
 qS 5 4 54])
 .ret)))))))
noncomputable def aQH:CM prog 168 2 [(0,[2,3,4]),(1,[2,3,4,5]),(2,[2,3,4,5,6]),(3,[2,3,4,5,6,25]),(4,[2,3,4,5,6]),(5,[4,5,6,7]),(6,[4,5]),(7,[4]),(1000006,[1,15,1,1,1,2,1,3,1,4,1,6,1,9,1,10,1,11,1,12,3,2,0,3,2,5,2,7,2,8,2,13,1,14,2,15,0,2,7,2,5,2,8,2,13,1,14,2,15,0,2,7,2,0,2,5,2,8,2,13,1,14,2,15,0])]:=.mk (m:=aVu) Go.Proofs.Tryz.func168 (by kernel_rfl)
def aUr:MC :=
 (.seq
 (rF [0,1] [oQ 4 (.mov (.k .nil))])
 (.seq
 (rF [0,1,5] [qI 5 0])
 (.seq
 (.block 0
 (.loop
 (.seq
 (.seq
 (rF [0,1,5,17] [qM 6 5,
 qM 7 0,
 qN 8 false 7,
 qT 9 .lss 6 8,
 qM 10 9,
 gM 11 10 true 0,
 gM 12 10 true 5,
 oG 13 10 true (.ia 1 (.t 11) (.t 12)),
 gL 14 10 true 13,
 gM 15 10 true 1,
 oG 16 10 true (.bin .lss (.t 14) (.t 15)),
 qA 17 10 16])
 (cE 17 0))
 (.block 1
 (rF [0,1,5] [qM 18 5,
 qJ 19 .add 18 1,
 qM 5 19])))))
 (.seq
 (.seq
 (rF [0,1,5,31] [qM 20 5,
 qM 21 0,
 qN 22 false 21,
 qT 23 .lss 20 22,
 qM 24 23,
 gM 25 24 true 0,
 gM 26 24 true 5,
 oG 27 24 true (.ia 1 (.t 25) (.t 26)),
 gL 28 24 true 27,
 gM 29 24 true 1,
 oG 30 24 true (.bin .eql (.t 28) (.t 29)),
 qA 31 24 30])
 (cS 31
 (.seq
 (rF [4] [qM 32 0,
 qM 4 32])
 .ret)))
 (.seq
 (.any [] [4] (.q 1 (qM 34 0) (.q 2 (qM 35 5) (.q 3 (oQ 36 (.slx 1 (.t 34) none (some (.t 35)))) (.q 5 (qM 38 1) (.q 8 (qM 41 0) (.q 9 (qM 42 5) (.q 10 (oQ 43 (.slx 1 (.t 41) (some (.t 42)) none)) (.br (.e 0 (oX 33 (.bs 1 0 (.int .i64 0) [])) (.br (.e 4 (oX 37 (.app 1 8 (.t 33) (.t 36))) (.e 6 (oX 39 (.bs 1 1 (.int .i64 0) [(0,(.t 38))])) (.e 7 (oX 40 (.app 1 8 (.t 37) (.t 39))) (.e 11 (oX 44 (.app 1 8 (.t 40) (.t 43))) (.q 12 (qM 4 44) .done)))))
 (.e 6 (oX 39 (.bs 1 1 (.int .i64 0) [(0,(.t 38))])) (.e 4 (oX 37 (.app 1 8 (.t 33) (.t 36))) (.e 7 (oX 40 (.app 1 8 (.t 37) (.t 39))) (.e 11 (oX 44 (.app 1 8 (.t 40) (.t 43))) (.q 12 (qM 4 44) .done)))))))
 (.e 6 (oX 39 (.bs 1 1 (.int .i64 0) [(0,(.t 38))])) (.e 0 (oX 33 (.bs 1 0 (.int .i64 0) [])) (.e 4 (oX 37 (.app 1 8 (.t 33) (.t 36))) (.e 7 (oX 40 (.app 1 8 (.t 37) (.t 39))) (.e 11 (oX 44 (.app 1 8 (.t 40) (.t 43))) (.q 12 (qM 4 44) .done)))))))))))))))
 .ret)))))
noncomputable def aRT:CM prog 169 2 [(0,[0,1]),(1,[0,1,5]),(2,[0,1,5,17]),(3,[0,1,5]),(4,[0,1,5,31]),(5,[4]),(6,[4]),(1000006,[0,1,1,1,2,1,3,1,5,1,8,1,9,1,10,3,2,0,3,2,4,2,6,2,7,2,11,1,12,0,2,6,2,4,2,7,2,11,1,12,0,2,6,2,0,2,4,2,7,2,11,1,12,0])]:=.mk (m:=aUr) Go.Proofs.Tryz.func169 (by kernel_rfl)
def aWh:MC :=
 (.seq
 (rF [1,2,4] [oX 2 (.box (.t 0)),
 oX 4 (.alloc (.st (.cons (.int .i64 0) (.cons (.sl true 4 .nil) (.cons (.int .i64 0) (.cons (.int .i64 0) (.cons (.sl true 1 .nil) .nil))))))),
 qB 5 false])
 (.seq
 (rF [1,4,6,7] [qV 12 5 2,
 qC 13 52 [12],
 oX 6 (.alloc (.st (.cons (.int .i64 0) (.cons (.sl true 4 .nil) (.cons (.int .i64 0) (.cons (.int .i64 0) (.cons (.sl true 1 .nil) .nil))))))),
 qS 5 6 13,
 qB 7 false])
 (.seq
 (.seq
 (rF [1,4,6,7,8] [qI 8 0])
 (.block 0
 (.loop
 (.seq
 (.seq
 (rF [1,4,6,7,8,18] [qM 14 8,
 qF 15 1 1 6,
 qL 16 15,
 qN 17 false 16,
 qT 18 .lss 14 17])
 (cE 18 0))
 (.seq
 (.block 1
 (.seq
 (rF [1,4,6,7,8,9] [oX 21 (.bs 1 0 (.int .i64 0) []),
 qM 9 21])
 (.seq
 (.seq
 (rF [1,4,6,7,8,9,10] [qI 10 0])
 (.block 2
 (.loop
 (.seq
 (.seq
 (rF [1,4,6,7,8,9,10,30] [qM 22 10,
 qF 23 1 1 6,
 qL 24 23,
 qM 25 8,
 qX 26 4 24 25,
 qF 27 3 3 26,
 qL 28 27,
 qN 29 false 28,
 qT 30 .lss 22 29])
 (cE 30 2))
 (.seq
 (.block 3
 (.seq
 (rF [1,4,6,7,8,9,10,11] [qF 33 1 1 6,
 qL 34 33,
 qM 35 8,
 qX 36 4 34 35,
 qF 37 3 3 36,
 qL 38 37,
 qM 39 10,
 qX 40 1 38 39,
 qL 41 40,
 qM 11 41])
 (.seq
 (rF [1,4,6,7,8,9,10,11,44] [qM 42 11,
 qM 43 1,
 qT 44 .eql 42 43])
 (.cond (.t 44)
 (rF [1,4,6,7,8,9,10] [qB 7 true])
 (rF [1,4,6,7,8,9,10] [qM 45 9,
 qM 46 11,
 oX 47 (.bs 1 1 (.int .i64 0) [(0,(.t 46))]),
 oX 48 (.app 1 8 (.t 45) (.t 47)),
 qM 9 48])))))
 (rF [1,4,6,7,8,9,10] [qM 31 10,
 qJ 32 .add 31 1,
 qM 10 32]))))))
 (rF [1,4,6,7,8] [qF 49 1 1 6,
 qL 50 49,
 qM 51 8,
 qM 52 9,
 qX 53 4 50 51,
 qF 54 3 3 53,
 qS 1 54 52]))))
 (rF [1,4,6,7,8] [qM 19 8,
 qJ 20 .add 19 1,
 qM 8 20]))))))
 (.seq
 (rF [4,5] [qV 55 5 6,
 qM 56 7,
 qS 5 4 55,
 qM 5 56])
 .ret))))
noncomputable def aRm:CM prog 170 2 [(0,[1,2,4]),(1,[1,4,6,7]),(2,[1,4,6,7,8]),(3,[1,4,6,7,8,18]),(4,[1,4,6,7,8]),(5,[1,4,6,7,8,9]),(6,[1,4,6,7,8,9,10]),(7,[1,4,6,7,8,9,10,30]),(8,[1,4,6,7,8,9,10]),(9,[1,4,6,7,8,9,10,11]),(10,[1,4,6,7,8,9,10,11,44]),(11,[1,4,6,7,8,9,10]),(12,[1,4,6,7,8,9,10]),(13,[1,4,6,7,8]),(14,[4,5])]:=.mk (m:=aWh) Go.Proofs.Tryz.func170 (by kernel_rfl)
def aUi:MC :=
 (.seq
 (rF [1,2,4] [oX 2 (.box (.t 0)),
 oX 4 (.alloc (.st (.cons (.int .i64 0) (.cons (.sl true 4 .nil) (.cons (.int .i64 0) (.cons (.int .i64 0) (.cons (.sl true 1 .nil) .nil))))))),
 qB 5 false])
 (.seq
 (.any [] [1,2,4,6,7] (.q 2 (qF 10 1 1 2) (.q 3 (qL 11 10) (.q 4 (qM 12 1) (.q 5 (qX 13 4 11 12) (.q 6 (oQ 14 (.ld (some 4) (.t 13))) (.br (.e 0 (qV 8 5 2) (.br (.e 1 (qC 9 52 [8]) (.br (.e 7 (oX 6 (.alloc (.st (.cons (.int .i64 0) (.cons (.sl true 4 .nil) (.cons (.int .i64 0) (.cons (.int .i64 0) (.cons (.sl true 1 .nil) .nil)))))))) (.e 8 (oX 7 (.alloc (.st (.cons (.int .i64 0) (.cons (.int .i64 0) (.cons (.int .i64 0) (.cons (.sl true 1 .nil) .nil))))))) (.e 9 (qS 5 6 9) (.e 10 (qS 4 7 14) .done))))
 (.e 8 (oX 7 (.alloc (.st (.cons (.int .i64 0) (.cons (.int .i64 0) (.cons (.int .i64 0) (.cons (.sl true 1 .nil) .nil))))))) (.e 7 (oX 6 (.alloc (.st (.cons (.int .i64 0) (.cons (.sl true 4 .nil) (.cons (.int .i64 0) (.cons (.int .i64 0) (.cons (.sl true 1 .nil) .nil)))))))) (.e 9 (qS 5 6 9) (.e 10 (qS 4 7 14) .done))))))
 (.br (.e 7 (oX 6 (.alloc (.st (.cons (.int .i64 0) (.cons (.sl true 4 .nil) (.cons (.int .i64 0) (.cons (.int .i64 0) (.cons (.sl true 1 .nil) .nil)))))))) (.br (.e 1 (qC 9 52 [8]) (.e 8 (oX 7 (.alloc (.st (.cons (.int .i64 0) (.cons (.int .i64 0) (.cons (.int .i64 0) (.cons (.sl true 1 .nil) .nil))))))) (.e 9 (qS 5 6 9) (.e 10 (qS 4 7 14) .done))))
 (.e 8 (oX 7 (.alloc (.st (.cons (.int .i64 0) (.cons (.int .i64 0) (.cons (.int .i64 0) (.cons (.sl true 1 .nil) .nil))))))) (.e 1 (qC 9 52 [8]) (.e 9 (qS 5 6 9) (.e 10 (qS 4 7 14) .done))))))
 (.e 8 (oX 7 (.alloc (.st (.cons (.int .i64 0) (.cons (.int .i64 0) (.cons (.int .i64 0) (.cons (.sl true 1 .nil) .nil))))))) (.br (.e 1 (qC 9 52 [8]) (.e 7 (oX 6 (.alloc (.st (.cons (.int .i64 0) (.cons (.sl true 4 .nil) (.cons (.int .i64 0) (.cons (.int .i64 0) (.cons (.sl true 1 .nil) .nil)))))))) (.e 9 (qS 5 6 9) (.e 10 (qS 4 7 14) .done))))
 (.e 7 (oX 6 (.alloc (.st (.cons (.int .i64 0) (.cons (.sl true 4 .nil) (.cons (.int .i64 0) (.cons (.int .i64 0) (.cons (.sl true 1 .nil) .nil)))))))) (.e 1 (qC 9 52 [8]) (.e 9 (qS 5 6 9) (.e 10 (qS 4 7 14) .done)))))))))
 (.br (.e 7 (oX 6 (.alloc (.st (.cons (.int .i64 0) (.cons (.sl true 4 .nil) (.cons (.int .i64 0) (.cons (.int .i64 0) (.cons (.sl true 1 .nil) .nil)))))))) (.br (.e 0 (qV 8 5 2) (.br (.e 1 (qC 9 52 [8]) (.e 8 (oX 7 (.alloc (.st (.cons (.int .i64 0) (.cons (.int .i64 0) (.cons (.int .i64 0) (.cons (.sl true 1 .nil) .nil))))))) (.e 9 (qS 5 6 9) (.e 10 (qS 4 7 14) .done))))
 (.e 8 (oX 7 (.alloc (.st (.cons (.int .i64 0) (.cons (.int .i64 0) (.cons (.int .i64 0) (.cons (.sl true 1 .nil) .nil))))))) (.e 1 (qC 9 52 [8]) (.e 9 (qS 5 6 9) (.e 10 (qS 4 7 14) .done))))))
 (.e 8 (oX 7 (.alloc (.st (.cons (.int .i64 0) (.cons (.int .i64 0) (.cons (.int .i64 0) (.cons (.sl true 1 .nil) .nil))))))) (.e 0 (qV 8 5 2) (.e 1 (qC 9 52 [8]) (.e 9 (qS 5 6 9) (.e 10 (qS 4 7 14) .done)))))))
 (.e 8 (oX 7 (.alloc (.st (.cons (.int .i64 0) (.cons (.int .i64 0) (.cons (.int .i64 0) (.cons (.sl true 1 .nil) .nil))))))) (.br (.e 0 (qV 8 5 2) (.br (.e 1 (qC 9 52 [8]) (.e 7 (oX 6 (.alloc (.st (.cons (.int .i64 0) (.cons (.sl true 4 .nil) (.cons (.int .i64 0) (.cons (.int .i64 0) (.cons (.sl true 1 .nil) .nil)))))))) (.e 9 (qS 5 6 9) (.e 10 (qS 4 7 14) .done))))
 (.e 7 (oX 6 (.alloc (.st (.cons (.int .i64 0) (.cons (.sl true 4 .nil) (.cons (.int .i64 0) (.cons (.int .i64 0) (.cons (.sl true 1 .nil) .nil)))))))) (.e 1 (qC 9 52 [8]) (.e 9 (qS 5 6 9) (.e 10 (qS 4 7 14) .done))))))
 (.e 7 (oX 6 (.alloc (.st (.cons (.int .i64 0) (.cons (.sl true 4 .nil) (.cons (.int .i64 0) (.cons (.int .i64 0) (.cons (.sl true 1 .nil) .nil)))))))) (.e 0 (qV 8 5 2) (.e 1 (qC 9 52 [8]) (.e 9 (qS 5 6 9) (.e 10 (qS 4 7 14) .done)))))))))))))))
 (.seq
 (.any [13] [2,4,6,7] (.q 1 (qF 16 1 1 6) (.q 2 (qL 17 16) (.q 3 (qM 18 1) (.q 4 (oQ 19 (.slx 4 (.t 17) none (some (.t 18)))) (.q 6 (qF 21 1 1 6) (.q 7 (qL 22 21) (.q 8 (qM 23 1) (.q 9 (qJ 24 .add 23 1) (.q 10 (oQ 25 (.slx 4 (.t 22) (some (.t 24)) none)) (.e 0 (oX 15 (.bs 4 0 (.st (.cons (.int .i64 0) (.cons (.int .i64 0) (.cons (.int .i64 0) (.cons (.sl true 1 .nil) .nil))))) [])) (.e 5 (oX 20 (.app 4 48 (.t 15) (.t 19))) (.e 11 (oX 26 (.app 4 48 (.t 20) (.t 25))) (.q 12 (qF 27 1 1 6) (.e 13 (qS 1 27 26) .done)))))))))))))))
 (.seq
 (.seq
 (rF [2,4,6,7,29] [qF 28 1 1 7,
 qL 29 28])
 (.block 0
 (.seq
 (rF [2,4,6,7,29,60] [qJ 61 .eql 29 1,
 qM 60 61])
 (.cond (.t 60)
 (rF [2,4,6,7] [qF 62 2 2 2,
 qL 63 62,
 qJ 64 .add 63 1,
 qF 65 2 2 6,
 qS 1 65 64])
 (.seq
 (rF [2,4,6,7,66] [qJ 67 .eql 29 2,
 qM 66 67])
 (.cond (.t 66)
 (rF [2,4,6,7] [qF 68 3 3 2,
 qL 69 68,
 qJ 70 .add 69 1,
 qF 71 3 3 6,
 qS 1 71 70])
 (.seq
 (.any [14] [2,4,6,7] (.q 0 (qF 30 4 4 6) (.q 1 (qL 31 30) (.q 2 (qF 32 0 0 7) (.q 3 (qL 33 32) (.q 7 (qF 37 0 0 2) (.q 8 (qL 38 37) (.e 4 (qC 34 89 [33]) (.q 5 (oQ 35 (.bin .add (.k (.d (.str [114]))) (.t 34))) (.q 6 (oQ 36 (.bin .add (.t 35) (.k (.d (.str [32,100]))))) (.e 9 (qC 39 89 [38]) (.q 10 (qT 40 .add 36 39) (.e 11 (oX 41 (.bs 1 1 (.str []) [(0,(.t 40))])) (.e 12 (oX 42 (.app 1 16 (.t 31) (.t 41))) (.q 13 (qF 43 4 4 6) (.e 14 (qS 1 43 42) .done))))))))))))))))
 (.seq
 (.any [16,17] [4,5] (.q 1 (qF 45 2 2 7) (.q 3 (qF 47 0 0 2) (.br (.e 0 (qV 44 5 6) (.br (.e 2 (qL 46 45) (.e 4 (qL 48 47) (.q 5 (qT 49 .leq 46 48) (.q 6 (qM 50 49) (.q 7 (gF 51 50 true 3 3 7) (.e 8 (gL 52 50 true 51) (.q 9 (oG 53 50 true (.len false (.t 52))) (.q 10 (oG 54 50 true (.bin .eql (.t 53) (kI 0))) (.q 11 (qA 55 50 54) (.q 12 (qM 56 55) (.e 13 (gV 57 56 true 5 6) (.e 14 (oH 58 56 true (.call 53 [(.t 57)])) (.q 15 (qA 59 56 58) (.e 16 (qS 5 4 44) (.e 17 (qM 5 59) .done)))))))))))))))
 (.e 4 (qL 48 47) (.e 2 (qL 46 45) (.q 5 (qT 49 .leq 46 48) (.q 6 (qM 50 49) (.q 7 (gF 51 50 true 3 3 7) (.e 8 (gL 52 50 true 51) (.q 9 (oG 53 50 true (.len false (.t 52))) (.q 10 (oG 54 50 true (.bin .eql (.t 53) (kI 0))) (.q 11 (qA 55 50 54) (.q 12 (qM 56 55) (.e 13 (gV 57 56 true 5 6) (.e 14 (oH 58 56 true (.call 53 [(.t 57)])) (.q 15 (qA 59 56 58) (.e 16 (qS 5 4 44) (.e 17 (qM 5 59) .done)))))))))))))))))
 (.br (.e 2 (qL 46 45) (.br (.e 0 (qV 44 5 6) (.e 4 (qL 48 47) (.q 5 (qT 49 .leq 46 48) (.q 6 (qM 50 49) (.q 7 (gF 51 50 true 3 3 7) (.e 8 (gL 52 50 true 51) (.q 9 (oG 53 50 true (.len false (.t 52))) (.q 10 (oG 54 50 true (.bin .eql (.t 53) (kI 0))) (.q 11 (qA 55 50 54) (.q 12 (qM 56 55) (.e 13 (gV 57 56 true 5 6) (.e 14 (oH 58 56 true (.call 53 [(.t 57)])) (.q 15 (qA 59 56 58) (.e 16 (qS 5 4 44) (.e 17 (qM 5 59) .done)))))))))))))))
 (.e 4 (qL 48 47) (.q 5 (qT 49 .leq 46 48) (.q 6 (qM 50 49) (.q 7 (gF 51 50 true 3 3 7) (.br (.e 0 (qV 44 5 6) (.e 8 (gL 52 50 true 51) (.q 9 (oG 53 50 true (.len false (.t 52))) (.q 10 (oG 54 50 true (.bin .eql (.t 53) (kI 0))) (.q 11 (qA 55 50 54) (.q 12 (qM 56 55) (.e 13 (gV 57 56 true 5 6) (.e 14 (oH 58 56 true (.call 53 [(.t 57)])) (.q 15 (qA 59 56 58) (.e 16 (qS 5 4 44) (.e 17 (qM 5 59) .done)))))))))))
 (.e 8 (gL 52 50 true 51) (.q 9 (oG 53 50 true (.len false (.t 52))) (.q 10 (oG 54 50 true (.bin .eql (.t 53) (kI 0))) (.q 11 (qA 55 50 54) (.q 12 (qM 56 55) (.br (.e 0 (qV 44 5 6) (.e 13 (gV 57 56 true 5 6) (.e 14 (oH 58 56 true (.call 53 [(.t 57)])) (.q 15 (qA 59 56 58) (.e 16 (qS 5 4 44) (.e 17 (qM 5 59) .done))))))
 (.e 13 (gV 57 56 true 5 6) (.br (.e 0 (qV 44 5 6) (.e 14 (oH 58 56 true (.call 53 [(.t 57)])) (.q 15 (qA 59 56 58) (.e 16 (qS 5 4 44) (.e 17 (qM 5 59) .done)))))
 (.e 14 (oH 58 56 true (.call 53 [(.t 57)])) (.q 15 (qA 59 56 58) (.e 0 (qV 44 5 6) (.e 16 (qS 5 4 44) (.e 17 (qM 5 59) .done))))))))))))))))))))
 (.e 4 (qL 48 47) (.br (.e 0 (qV 44 5 6) (.e 2 (qL 46 45) (.q 5 (qT 49 .leq 46 48) (.q 6 (qM 50 49) (.q 7 (gF 51 50 true 3 3 7) (.e 8 (gL 52 50 true 51) (.q 9 (oG 53 50 true (.len false (.t 52))) (.q 10 (oG 54 50 true (.bin .eql (.t 53) (kI 0))) (.q 11 (qA 55 50 54) (.q 12 (qM 56 55) (.e 13 (gV 57 56 true 5 6) (.e 14 (oH 58 56 true (.call 53 [(.t 57)])) (.q 15 (qA 59 56 58) (.e 16 (qS 5 4 44) (.e 17 (qM 5 59) .done)))))))))))))))
 (.e 2 (qL 46 45) (.q 5 (qT 49 .leq 46 48) (.q 6 (qM 50 49) (.q 7 (gF 51 50 true 3 3 7) (.br (.e 0 (qV 44 5 6) (.e 8 (gL 52 50 true 51) (.q 9 (oG 53 50 true (.len false (.t 52))) (.q 10 (oG 54 50 true (.bin .eql (.t 53) (kI 0))) (.q 11 (qA 55 50 54) (.q 12 (qM 56 55) (.e 13 (gV 57 56 true 5 6) (.e 14 (oH 58 56 true (.call 53 [(.t 57)])) (.q 15 (qA 59 56 58) (.e 16 (qS 5 4 44) (.e 17 (qM 5 59) .done)))))))))))
 (.e 8 (gL 52 50 true 51) (.q 9 (oG 53 50 true (.len false (.t 52))) (.q 10 (oG 54 50 true (.bin .eql (.t 53) (kI 0))) (.q 11 (qA 55 50 54) (.q 12 (qM 56 55) (.br (.e 0 (qV 44 5 6) (.e 13 (gV 57 56 true 5 6) (.e 14 (oH 58 56 true (.call 53 [(.t 57)])) (.q 15 (qA 59 56 58) (.e 16 (qS 5 4 44) (.e 17 (qM 5 59) .done))))))
 (.e 13 (gV 57 56 true 5 6) (.br (.e 0 (qV 44 5 6) (.e 14 (oH 58 56 true (.call 53 [(.t 57)])) (.q 15 (qA 59 56 58) (.e 16 (qS 5 4 44) (.e 17 (qM 5 59) .done)))))
 (.e 14 (oH 58 56 true (.call 53 [(.t 57)])) (.q 15 (qA 59 56 58) (.e 0 (qV 44 5 6) (.e 16 (qS 5 4 44) (.e 17 (qM 5 59) .done)))))))))))))))))))))))))
 .ret))))))))
 (.seq
 (.any [10,11] [4,5] (.q 1 (qF 73 2 2 7) (.q 3 (qF 75 0 0 2) (.br (.e 0 (qV 72 5 6) (.br (.e 2 (qL 74 73) (.e 4 (qL 76 75) (.q 5 (qT 77 .leq 74 76) (.q 6 (qM 78 77) (.e 7 (gV 79 78 true 5 6) (.e 8 (oH 80 78 true (.call 53 [(.t 79)])) (.q 9 (qA 81 78 80) (.e 10 (qS 5 4 72) (.e 11 (qM 5 81) .done)))))))))
 (.e 4 (qL 76 75) (.e 2 (qL 74 73) (.q 5 (qT 77 .leq 74 76) (.q 6 (qM 78 77) (.e 7 (gV 79 78 true 5 6) (.e 8 (oH 80 78 true (.call 53 [(.t 79)])) (.q 9 (qA 81 78 80) (.e 10 (qS 5 4 72) (.e 11 (qM 5 81) .done)))))))))))
 (.br (.e 2 (qL 74 73) (.br (.e 0 (qV 72 5 6) (.e 4 (qL 76 75) (.q 5 (qT 77 .leq 74 76) (.q 6 (qM 78 77) (.e 7 (gV 79 78 true 5 6) (.e 8 (oH 80 78 true (.call 53 [(.t 79)])) (.q 9 (qA 81 78 80) (.e 10 (qS 5 4 72) (.e 11 (qM 5 81) .done)))))))))
 (.e 4 (qL 76 75) (.q 5 (qT 77 .leq 74 76) (.q 6 (qM 78 77) (.br (.e 0 (qV 72 5 6) (.e 7 (gV 79 78 true 5 6) (.e 8 (oH 80 78 true (.call 53 [(.t 79)])) (.q 9 (qA 81 78 80) (.e 10 (qS 5 4 72) (.e 11 (qM 5 81) .done))))))
 (.e 7 (gV 79 78 true 5 6) (.br (.e 0 (qV 72 5 6) (.e 8 (oH 80 78 true (.call 53 [(.t 79)])) (.q 9 (qA 81 78 80) (.e 10 (qS 5 4 72) (.e 11 (qM 5 81) .done)))))
 (.e 8 (oH 80 78 true (.call 53 [(.t 79)])) (.q 9 (qA 81 78 80) (.e 0 (qV 72 5 6) (.e 10 (qS 5 4 72) (.e 11 (qM 5 81) .done)))))))))))))
 (.e 4 (qL 76 75) (.br (.e 0 (qV 72 5 6) (.e 2 (qL 74 73) (.q 5 (qT 77 .leq 74 76) (.q 6 (qM 78 77) (.e 7 (gV 79 78 true 5 6) (.e 8 (oH 80 78 true (.call 53 [(.t 79)])) (.q 9 (qA 81 78 80) (.e 10 (qS 5 4 72) (.e 11 (qM 5 81) .done)))))))))
 (.e 2 (qL 74 73) (.q 5 (qT 77 .leq 74 76) (.q 6 (qM 78 77) (.br (.e 0 (qV 72 5 6) (.e 7 (gV 79 78 true 5 6) (.e 8 (oH 80 78 true (.call 53 [(.t 79)])) (.q 9 (qA 81 78 80) (.e 10 (qS 5 4 72) (.e 11 (qM 5 81) .done))))))
 (.e 7 (gV 79 78 true 5 6) (.br (.e 0 (qV 72 5 6) (.e 8 (oH 80 78 true (.call 53 [(.t 79)])) (.q 9 (qA 81 78 80) (.e 10 (qS 5 4 72) (.e 11 (qM 5 81) .done)))))
 (.e 8 (oH 80 78 true (.call 53 [(.t 79)])) (.q 9 (qA 81 78 80) (.e 0 (qV 72 5 6) (.e 10 (qS 5 4 72) (.e 11 (qM 5 81) .done))))))))))))))))))
 .ret)))))
noncomputable def aRs:CM prog 171 2 [(0,[1,2,4]),(1,[1,2,4,6,7]),(2,[2,4,6,7]),(3,[2,4,6,7,29]),(4,[2,4,6,7]),(5,[4,5]),(6,[2,4,6,7,29,60]),(7,[2,4,6,7]),(8,[2,4,6,7,66]),(9,[2,4,6,7]),(10,[4,5]),(1000001,[0,1,2,1,3,1,4,1,5,1,6,3,2,0,3,2,1,3,2,7,2,8,2,9,2,10,0,2,8,2,7,2,9,2,10,0,3,2,7,3,2,1,2,8,2,9,2,10,0,2,8,2,1,2,9,2,10,0,2,8,3,2,1,2,7,2,9,2,10,0,2,7,2,1,2,9,2,10,0,3,2,7,3,2,0,3,2,1,2,8,2,9,2,10,0,2,8,2,1,2,9,2,10,0,2,8,2,0,2,1,2,9,2,10,0,2,8,3,2,0,3,2,1,2,7,2,9,2,10,0,2,7,2,1,2,9,2,10,0,2,7,2,0,2,1,2,9,2,10,0]),(1000002,[1,13,1,1,1,2,1,3,1,4,1,6,1,7,1,8,1,9,1,10,2,0,2,5,2,11,1,12,2,13,0]),(1000004,[1,14,1,0,1,1,1,2,1,3,1,7,1,8,2,4,1,5,1,6,2,9,1,10,2,11,2,12,1,13,2,14,0]),(1000005,[2,16,17,1,1,1,3,3,2,0,3,2,2,2,4,1,5,1,6,1,7,2,8,1,9,1,10,1,11,1,12,2,13,2,14,1,15,2,16,2,17,0,2,4,2,2,1,5,1,6,1,7,2,8,1,9,1,10,1,11,1,12,2,13,2,14,1,15,2,16,2,17,0,3,2,2,3,2,0,2,4,1,5,1,6,1,7,2,8,1,9,1,10,1,11,1,12,2,13,2,14,1,15,2,16,2,17,0,2,4,1,5,1,6,1,7,3,2,0,2,8,1,9,1,10,1,11,1,12,2,13,2,14,1,15,2,16,2,17,0,2,8,1,9,1,10,1,11,1,12,3,2,0,2,13,2,14,1,15,2,16,2,17,0,2,13,3,2,0,2,14,1,15,2,16,2,17,0,2,14,1,15,2,0,2,16,2,17,0,2,4,3,2,0,2,2,1,5,1,6,1,7,2,8,1,9,1,10,1,11,1,12,2,13,2,14,1,15,2,16,2,17,0,2,2,1,5,1,6,1,7,3,2,0,2,8,1,9,1,10,1,11,1,12,2,13,2,14,1,15,2,16,2,17,0,2,8,1,9,1,10,1,11,1,12,3,2,0,2,13,2,14,1,15,2,16,2,17,0,2,13,3,2,0,2,14,1,15,2,16,2,17,0,2,14,1,15,2,0,2,16,2,17,0]),(1000010,[2,10,11,1,1,1,3,3,2,0,3,2,2,2,4,1,5,1,6,2,7,2,8,1,9,2,10,2,11,0,2,4,2,2,1,5,1,6,2,7,2,8,1,9,2,10,2,11,0,3,2,2,3,2,0,2,4,1,5,1,6,2,7,2,8,1,9,2,10,2,11,0,2,4,1,5,1,6,3,2,0,2,7,2,8,1,9,2,10,2,11,0,2,7,3,2,0,2,8,1,9,2,10,2,11,0,2,8,1,9,2,0,2,10,2,11,0,2,4,3,2,0,2,2,1,5,1,6,2,7,2,8,1,9,2,10,2,11,0,2,2,1,5,1,6,3,2,0,2,7,2,8,1,9,2,10,2,11,0,2,7,3,2,0,2,8,1,9,2,10,2,11,0,2,8,1,9,2,0,2,10,2,11,0])]:=.mk (m:=aUi) Go.Proofs.Tryz.func171 (by kernel_rfl)
def aVt:MC :=
 (.seq
 (rF [0,1] [qI 4 0])
 (.seq
 (.seq
 (rF [0,1,7,8] [qM 6 0,
 qN 7 false 6,
 qI 8 0])
 (.block 0
 (.loop
 (.seq
 (rF [0,1,7,8,9] [qT 9 .lss 8 7])
 (.seq
 (cE 9 0)
 (.seq
 (.block 1
 (.seq
 (rF [0,1,5,7,8] [qM 10 8,
 qM 5 10])
 (.seq
 (rF [0,1,5,7,8,16] [qM 11 1,
 qM 12 0,
 qM 13 5,
 qX 14 1 12 13,
 qL 15 14,
 oX 16 (.callW (.t 11) [(.t 15)])])
 (cS 16
 (.seq
 (rF [4] [qM 17 5,
 qM 4 17])
 .ret)))))
 (rF [0,1,7,8] [qJ 18 .add 8 1,
 qM 8 18])))))))
 (.seq
 (rF [4] [oQ 4 (.mov (.k (.d (.int .i64 (-1)))))])
 .ret)))
noncomputable def aRI:CM prog 172 2 [(0,[0,1]),(1,[0,1,7,8]),(2,[0,1,7,8,9]),(3,[0,1,5,7,8]),(4,[0,1,5,7,8,16]),(5,[4]),(6,[0,1,7,8]),(7,[4])]:=.mk (m:=aVt) Go.Proofs.Tryz.func172 (by kernel_rfl)
def aTP:MC :=
 (.seq
 (rF [0,1] [oQ 4 (.mov (.k (.d (.str []))))])
 (.seq
 (.seq
 (rF [0,1,12] [qM 7 0,
 oQ 8 (.bin .eql (.t 7) (.k (.d (.str [])))),
 qM 9 8,
 gM 10 9 false 1,
 oG 11 9 false (.bin .eql (.t 10) (.k (.d (.str [])))),
 qO 12 9 11])
 (cS 12
 (.seq
 (rF [4] [qM 13 0,
 qM 4 13])
 .ret)))
 (.seq
 (.seq
 (rF [0,1,21] [qM 14 1,
 qN 15 true 14,
 qJ 16 .eql 15 1,
 qM 17 16,
 gM 18 17 true 1,
 oG 19 17 true (.ix (.t 18) (kI 0)),
 oG 20 17 true (.bin .lss (.t 19) (.k (.d (.int .u8 128)))),
 qA 21 17 20])
 (cS 21
 (.seq
 (.reg true [4] [qM 22 0,
 qM 23 1,
 oQ 24 (.ix (.t 23) (kI 0)),
 oQ 25 (.callP 200 [(.t 22),(.t 24)]),
 qM 26 1,
 oQ 27 (.ix (.t 26) (kI 0)),
 oQ 28 (.callP 199 [(.t 25),(.t 27)]),
 qM 4 28])
 .ret)))
 (.seq
 (.seq
 (rF [0,1,5,6] [qM 30 1,
 qC 31 201 [30],
 qM 29 31,
 qE 32 29 0,
 qE 33 29 1,
 oX 5 (.alloc (.st (i6 (List.replicate 256 (.bool false))))),
 qS 256 5 32,
 qM 6 33])
 (.seq
 (rF [0,1,5,34] [qM 34 6])
 (cS 34
 (.seq
 (rF [4] [qM 35 0,
 qC 36 203 [35,5],
 qC 37 202 [36,5],
 qM 4 37])
 .ret))))
 (.seq
 (rF [4] [qM 38 0,
 qM 39 1,
 qC 40 205 [38,39],
 qM 41 1,
 qC 42 204 [40,41],
 qM 4 42])
 .ret)))))
noncomputable def aRx:CM prog 173 2 [(0,[0,1]),(1,[0,1,12]),(2,[4]),(3,[0,1,21]),(4,[4]),(5,[0,1,5,6]),(6,[0,1,5,34]),(7,[4]),(8,[4])]:=.mk (m:=aTP) Go.Proofs.Tryz.func173 (by kernel_rfl)
def aUu:MC :=
 (.seq
 (rF [0,1] [qI 4 0])
 (.seq
 (.seq
 (rF [0,1,7,8] [qM 6 0,
 qN 7 false 6,
 qI 8 0])
 (.block 0
 (.loop
 (.seq
 (rF [0,1,7,8,9] [qT 9 .lss 8 7])
 (.seq
 (cE 9 0)
 (.seq
 (.block 1
 (.seq
 (rF [0,1,5,7,8] [qM 10 8,
 qM 5 10])
 (.seq
 (rF [0,1,5,7,8,16] [qM 11 1,
 qM 12 0,
 qM 13 5,
 qX 14 1 12 13,
 qL 15 14,
 oX 16 (.callW (.t 11) [(.t 15)])])
 (cS 16
 (.seq
 (rF [4] [qM 17 5,
 qM 4 17])
 .ret)))))
 (rF [0,1,7,8] [qJ 18 .add 8 1,
 qM 8 18])))))))
 (.seq
 (rF [4] [oQ 4 (.mov (.k (.d (.int .i64 (-1)))))])
 .ret)))
noncomputable def aQR:CM prog 174 2 [(0,[0,1]),(1,[0,1,7,8]),(2,[0,1,7,8,9]),(3,[0,1,5,7,8]),(4,[0,1,5,7,8,16]),(5,[4]),(6,[0,1,7,8]),(7,[4])]:=.mk (m:=aUu) Go.Proofs.Tryz.func174 (by kernel_rfl)
def aWl:MC :=
 (.seq
 (rF [0,1] [qI 4 0])
 (.seq
 (.seq
 (rF [0,1,7,8] [qM 6 0,
 qN 7 false 6,
 qI 8 0])
 (.block 0
 (.loop
 (.seq
 (rF [0,1,7,8,9] [qT 9 .lss 8 7])
 (.seq
 (cE 9 0)
 (.seq
 (.block 1
 (.seq
 (rF [0,1,5,7,8] [qM 10 8,
 qM 5 10])
 (.seq
 (rF [0,1,5,7,8,16] [qM 11 1,
 qM 12 0,
 qM 13 5,
 qX 14 4 12 13,
 oQ 15 (.ld (some 4) (.t 14)),
 oX 16 (.callW (.t 11) [(.t 15)])])
 (cS 16
 (.seq
 (rF [4] [qM 17 5,
 qM 4 17])
 .ret)))))
 (rF [0,1,7,8] [qJ 18 .add 8 1,
 qM 8 18])))))))
 (.seq
 (rF [4] [oQ 4 (.mov (.k (.d (.int .i64 (-1)))))])
 .ret)))
noncomputable def aRq:CM prog 185 2 [(0,[0,1]),(1,[0,1,7,8]),(2,[0,1,7,8,9]),(3,[0,1,5,7,8]),(4,[0,1,5,7,8,16]),(5,[4]),(6,[0,1,7,8]),(7,[4])]:=.mk (m:=aWl) Go.Proofs.Tryz.func185 (by kernel_rfl)
def aTH:MC :=
 (.seq
 (rF [1,2] [oX 2 (.box (.t 0)),
 qB 3 false])
 (.seq
 (rF [3] [qF 4 0 0 2,
 qL 5 4,
 qL 6 1,
 qT 7 .eql 5 6,
 qM 3 7])
 .ret))
noncomputable def aQy:CM prog 186 2 [(0,[1,2]),(1,[3])]:=.mk (m:=aTH) Go.Proofs.Tryz.func186 (by kernel_rfl)
theorem aVO:fX prog.P 186=true:=by kernel_rfl
def aVs:MC :=
 (.seq
 (rF [0,1] [qI 4 0])
 (.seq
 (.seq
 (rF [0,1,7,8] [qM 6 0,
 qN 7 false 6,
 qI 8 0])
 (.block 0
 (.loop
 (.seq
 (rF [0,1,7,8,9] [qT 9 .lss 8 7])
 (.seq
 (cE 9 0)
 (.seq
 (.block 1
 (.seq
 (rF [0,1,5,7,8] [qM 10 8,
 qM 5 10])
 (.seq
 (rF [0,1,5,7,8,16] [qM 11 1,
 qM 12 0,
 qM 13 5,
 qX 14 1 12 13,
 qL 15 14,
 qT 16 .eql 11 15])
 (cS 16
 (.seq
 (rF [4] [qM 17 5,
 qM 4 17])
 .ret)))))
 (rF [0,1,7,8] [qJ 18 .add 8 1,
 qM 8 18])))))))
 (.seq
 (rF [4] [oQ 4 (.mov (.k (.d (.int .i64 (-1)))))])
 .ret)))
noncomputable def aRb:CM prog 189 2 [(0,[0,1]),(1,[0,1,7,8]),(2,[0,1,7,8,9]),(3,[0,1,5,7,8]),(4,[0,1,5,7,8,16]),(5,[4]),(6,[0,1,7,8]),(7,[4])]:=.mk (m:=aVs) Go.Proofs.Tryz.func189 (by kernel_rfl)
def aVY:MC :=
 (.seq
 (rF [0,2] [qM 3 0,
 qN 4 false 3,
 qM 2 4])
 (rF [0] [qM 5 0,
 qM 6 2,
 qM 7 2,
 oQ 8 (.conv .u64 (.t 7)),
 qC 9 214 [8],
 oX 10 (.call 213 [(.t 5),(kI 0),(.t 6),(.t 9)])]))
noncomputable def aQD:CM prog 191 1 [(0,[0,2]),(1,[0])]:=.mk (m:=aVY) Go.Proofs.Tryz.func191 (by kernel_rfl)
end Go.Pe.Tryz
