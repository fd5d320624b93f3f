/-
The compact code of the functions that the law reaches,printed by gen.py,each with the proof that the machine's code is compiled to it.
-/
import Derived.Test.YtmkmjcgkcpmmpaaGreatDoorPeD
import Derived.Lib.ItoaNum
import Derived.Lib.LaidTab
import Derived.Test.YtmkmjcgkcpmmpaaGreatDoorProg
import Derived.KernelRfl
set_option maxRecDepth 100000
namespace Go.Pe.Tryz
open Go.Pe
theorem aHy {P:Program} {n:String} {k:IntKind} {zs:List Int} {g:Nat} (hg:P.globalNamed n=some g) (w w':World) (_:w.heap.size<=w'.heap.size) (hk:∀ b,b < w.heap.size->w'.heap[b]?=w.heap[b]?) (h:Go.Lib.TabIs P w n k zs):Go.Lib.TabIs P w' n k zs:=by
 unfold Go.Lib.TabIs World.var? at h ⊢
 rw [hg] at h ⊢
 simp only [Option.bind_some] at h ⊢
 by_cases hb:g < w.heap.size
 ·rw [hk g hb]; exact h
 ·rw [Array.getElem?_eq_none (by omega)] at h
  simp at h
theorem aGb (g:Nat) (w w':World) (hk:∀ b,b < w.heap.size->w'.heap[b]?=w.heap[b]?) (h:∃ m,w.cell? ⟨g,0,none⟩=some (.int .i64 m)):∃ m,w'.cell? ⟨g,0,none⟩=some (.int .i64 m):=by
 obtain ⟨m,h⟩:=h
 by_cases hb:g < w.heap.size
 ·refine ⟨m,?_⟩
  unfold World.cell? at h ⊢
  rw [hk g hb]; exact h
 ·have hn:w.heap[g]?=none:=Array.getElem?_eq_none (by omega)
  simp [World.cell?,hn] at h
noncomputable def prog : PG := ⟨Go.Proofs.Tryz.prog, fun w => (Go.Lib.TabIs Go.Proofs.Tryz.prog w "internal/strconv.uint64pow10" .u64 Go.Lib.pow10Tab) /\ (∃ m, w.cell? ⟨3, 0, none⟩ = some (.int .i64 m)), fun w w' hs hk h => ⟨aHy (show Go.Proofs.Tryz.prog.globalNamed "internal/strconv.uint64pow10" = some 2 by kernel_rfl) w w' hs hk h.1, aGb 3 w w' hk h.2⟩⟩
theorem aN1 {w : World} (h : prog.F w) : Go.Lib.TabIs Go.Proofs.Tryz.prog w "internal/strconv.uint64pow10" .u64 Go.Lib.pow10Tab := h.1
theorem aSU {w:World} (h:prog.F w):∃ m,w.cell? ⟨3,0,none⟩=some (.int .i64 m):=h.2
theorem bU:dE prog.P 27=some 5:=by kernel_rfl
theorem gN:dE prog.P 29=some 4:=by kernel_rfl
def aOr:List (Nat×List Nat):=[(4,[3,4,10]),(5,[3,4]),(6,[3,4]),(1000005,[1,10,1,0,1,1,1,2,1,3,1,4,1,5,1,6,2,7,2,8,2,9,2,10,0]),(1000006,[1,6,1,0,1,1,1,2,1,3,2,4,2,5,2,6,0])]
def aMK:MC :=
 (.block 1
 (.seq
 (.reg false [3,4,10] [⟨(some 8),none,false,.mov (.t 4)⟩,
 ⟨(some 9),none,false,.len false (.t 8)⟩,
 ⟨(some 10),none,false,.bin .eql (.t 9) (.k (.d (.int .i64 2)))⟩])
 (.cond (.t 10)
 (.any [10] [3,4] (.q 0 ⟨(some 11),none,false,.ld none (.t 3)⟩ (.q 1 ⟨(some 12),none,false,.mov (.t 4)⟩ (.q 2 ⟨(some 13),none,false,.ia 1 (.t 12) (.k (.d (.int .i64 0)))⟩ (.q 3 ⟨(some 14),none,false,.ld none (.t 13)⟩ (.q 4 ⟨(some 15),none,false,.mov (.t 4)⟩ (.q 5 ⟨(some 16),none,false,.ia 1 (.t 15) (.k (.d (.int .i64 1)))⟩ (.q 6 ⟨(some 17),none,false,.ld none (.t 16)⟩ (.e 7 ⟨(some 18),none,true,.call 112 [(.t 14),(.t 17)]⟩ (.e 8 ⟨(some 19),none,true,.bs 1 1 (.int .i64 0) [(0,(.t 18))]⟩ (.e 9 ⟨(some 20),none,true,.app 1 8 (.t 11) (.t 19)⟩ (.e 10 ⟨none,none,true,.st 1 (.t 3) (.t 20)⟩ .done))))))))))))
 (.any [6] [3,4] (.q 0 ⟨(some 21),none,false,.ld none (.t 3)⟩ (.q 1 ⟨(some 22),none,false,.mov (.t 4)⟩ (.q 2 ⟨(some 23),none,false,.ia 1 (.t 22) (.k (.d (.int .i64 0)))⟩ (.q 3 ⟨(some 24),none,false,.ld none (.t 23)⟩ (.e 4 ⟨(some 25),none,true,.bs 1 1 (.int .i64 0) [(0,(.t 24))]⟩ (.e 5 ⟨(some 26),none,true,.app 1 8 (.t 21) (.t 25)⟩ (.e 6 ⟨none,none,true,.st 1 (.t 3) (.t 26)⟩ .done)))))))))))
theorem aOi:(Go.Proofs.Tryz.f92).body.bind (fun c=>(kL c).bind (comp prog.P (8,(Go.Proofs.Tryz.f92).ntmps) aOr))=some aMK:=by kernel_rfl
theorem aO8:(Go.Proofs.Tryz.f92).body.bind (fun c=>(kL c).map j8)=some true:=by kernel_rfl
def lv4:List (Nat×List Nat):=[(0,[0]),(1,[0,37]),(2,[2]),(3,[0,3]),(4,[0,3,4,5]),(5,[0,3,4,5,6,7]),(6,[0,3,4,5,58]),(7,[2]),(8,[0,3,4,5,8,9]),(9,[0,3,4,5,8,9,10,11]),(10,[0,3,4,88]),(11,[2]),(12,[0,3,4,12]),(13,[0,3,4,12,92]),(14,[0,3,4,12]),(15,[0,3,4,12,14]),(16,[0,3,4,12,105]),(17,[2]),(18,[0,15,16]),(19,[0,15,16,17,18]),(20,[0,15,16,17,18,19,20]),(21,[0,15,16,17,18,131]),(22,[2]),(23,[0,15,16,17,132]),(24,[0,16,17,21,22]),(25,[0,16,21,22,144]),(26,[2]),(27,[0,16,21,145]),(28,[0,23,24]),(29,[0,158]),(30,[2]),(31,[0,25]),(32,[0,25,26,27]),(33,[0,26,27,28,29]),(34,[0,178]),(35,[2]),(36,[30,31]),(37,[30,31,32,33]),(38,[32,33,34,35]),(39,[2]),(1000015,[2,11,12,1,1,1,2,1,3,1,4,3,2,0,3,2,5,3,2,6,1,7,1,8,1,9,2,10,2,11,2,12,0,2,10,2,6,1,7,1,8,1,9,2,11,2,12,0,2,10,2,5,2,6,1,7,1,8,1,9,2,11,2,12,0,3,2,5,3,2,0,3,2,6,1,7,1,8,1,9,2,10,2,11,2,12,0,2,10,2,6,1,7,1,8,1,9,2,11,2,12,0,2,10,2,0,2,6,1,7,1,8,1,9,2,11,2,12,0,2,10,3,2,0,2,5,2,6,1,7,1,8,1,9,2,11,2,12,0,2,5,2,0,2,6,1,7,1,8,1,9,2,11,2,12,0])]
def m4:MC :=
 (.seq
 (.reg false [0] [oQ 2 (.mov (kB false))])
 (.seq
 (.seq
 (.reg false [0,37] [oQ 36 (.mov (.t 0)),
 oX 37 (.call 5 [(.t 36)])])
 (.cond (.t 37)
 (.seq
 (.reg false [2] [oQ 2 (.mov (kB true))])
 .ret)
 .skip))
 (.seq
 (.reg false [0,3] [oQ 38 (.mov (.t 0)),
 oX 39 (.call 21 [(.t 38)]),
 oX 3 (.alloc (.st (.cons (.int .i64 0) (.cons (.sl true 4 .nil) (.cons (.int .i64 0) (.cons (.int .i64 0) (.cons (.sl true 1 .nil) .nil))))))),
 oN (.st 5 (.t 3) (.t 39))])
 (.seq
 (.reg false [0,3,4,5] [oQ 41 (.ldv 5 (.t 3)),
 oX 42 (.call 13 [(.t 41)]),
 oQ 40 (.mov (.t 42)),
 oQ 43 (.ext (.t 40) 0),
 oQ 44 (.ext (.t 40) 1),
 oQ 4 (.mov (.t 43)),
 oQ 5 (.mov (.t 44))])
 (.seq
 (.seq
 (.reg false [0,3,4,5,6,7] [oQ 46 (.ldv 5 (.t 3)),
 oX 47 (.call 22 [(.t 46)]),
 oQ 45 (.mov (.t 47)),
 oQ 48 (.ext (.t 45) 0),
 oQ 49 (.ext (.t 45) 1),
 oQ 6 (.mov (.t 48)),
 oQ 7 (.mov (.t 49))])
 (.seq
 (.reg false [0,3,4,5,58] [oQ 50 (.mov (.t 5)),
 oQ 51 (.mov (.t 7)),
 oQ 52 (.bb .neq (.t 50) (.t 51)),
 oQ 53 (.mov (.t 52)),
 oG 54 53 false (.mov (.t 4)),
 oG 55 53 false (.mov (.t 6)),
 oH 56 53 false (.call 23 [(.t 54),(.t 55)]),
 oG 57 53 false (.un .not (.t 56)),
 oQ 58 (.pick (.t 53) (kB true) (.t 57))])
 (.cond (.t 58)
 (.seq
 (.reg false [2] [oQ 2 (.mov (kB false))])
 .ret)
 .skip)))
 (.seq
 (.reg false [0,3,4,5,8,9] [oQ 60 (.ldv 5 (.t 3)),
 oX 61 (.call 12 [(.t 60)]),
 oQ 59 (.mov (.t 61)),
 oQ 62 (.ext (.t 59) 0),
 oQ 63 (.ext (.t 59) 1),
 oQ 8 (.mov (.t 62)),
 oQ 9 (.mov (.t 63))])
 (.seq
 (.seq
 (.reg false [0,3,4,5,8,9,10,11] [oQ 65 (.ldv 5 (.t 3)),
 oX 66 (.call 24 [(.t 65)]),
 oQ 64 (.mov (.t 66)),
 oQ 67 (.ext (.t 64) 0),
 oQ 68 (.ext (.t 64) 1),
 oQ 10 (.mov (.t 67)),
 oQ 11 (.mov (.t 68))])
 (.seq
 (.reg false [0,3,4,88] [oQ 69 (.mov (.t 9)),
 oQ 70 (.mov (.t 11)),
 oQ 71 (.bb .neq (.t 69) (.t 70)),
 oQ 72 (.mov (.t 71)),
 oG 73 72 false (.mov (.t 9)),
 oG 74 72 false (.mov (.t 5)),
 oG 75 72 false (.bb .neq (.t 73) (.t 74)),
 oQ 76 (.pick (.t 72) (kB true) (.t 75)),
 oQ 77 (.mov (.t 76)),
 oG 78 77 false (.mov (.t 8)),
 oG 79 77 false (.mov (.t 10)),
 oH 80 77 false (.call 23 [(.t 78),(.t 79)]),
 oG 81 77 false (.un .not (.t 80)),
 oQ 82 (.pick (.t 77) (kB true) (.t 81)),
 oQ 83 (.mov (.t 82)),
 oG 84 83 false (.mov (.t 4)),
 oG 85 83 false (.mov (.t 8)),
 oH 86 83 false (.call 25 [(.t 84),(.t 85)]),
 oG 87 83 false (.un .not (.t 86)),
 oQ 88 (.pick (.t 83) (kB true) (.t 87))])
 (.cond (.t 88)
 (.seq
 (.reg false [2] [oQ 2 (.mov (kB false))])
 .ret)
 .skip)))
 (.seq
 (.seq
 (.reg false [0,3,4,12] [oQ 12 (.mov (kI 0))])
 (.block 0
 (.loop
 (.seq
 (.seq
 (.reg false [0,3,4,12,92] [oQ 89 (.mov (.t 12)),
 oQ 90 (.mov (.t 4)),
 oQ 91 (.len false (.t 90)),
 oQ 92 (.bin .lss (.t 89) (.t 91))])
 (.cond (.t 92)
 .skip
 (.exit 0)))
 (.seq
 (.block 1
 (.seq
 (.any [11,12] [0,3,4,12,14] (.q 1 (oQ 97 (.mov (.t 4))) (.q 2 (oQ 98 (.mov (.t 12))) (.q 3 (oQ 99 (.ia 1 (.t 97) (.t 98))) (.q 4 (oQ 100 (.ld none (.t 99))) (.br (.e 0 (oQ 96 (.ldv 5 (.t 3))) (.br (.e 5 (oX 101 (.bld (.cons (.int .i64 0) (.cons (.int .i64 0) (.cons (.int .i64 0) (.cons (.int .i64 0) .nil)))) [(0,(kI 6)),(1,(.t 100))])) (.br (.e 6 (oX 102 (.call 7 [(.t 96),(.t 101)])) (.q 7 (oQ 95 (.mov (.t 102))) (.q 8 (oQ 103 (.ext (.t 95) 0)) (.q 9 (oQ 104 (.ext (.t 95) 1)) (.e 10 (oX 13 (.alloc (.st (.cons (.int .i64 0) (.cons (.sl true 4 .nil) (.cons (.int .i64 0) (.cons (.int .i64 0) (.cons (.sl true 1 .nil) .nil)))))))) (.e 11 (oN (.st 5 (.t 13) (.t 103))) (.e 12 (oQ 14 (.mov (.t 104))) .done)))))))
 (.e 10 (oX 13 (.alloc (.st (.cons (.int .i64 0) (.cons (.sl true 4 .nil) (.cons (.int .i64 0) (.cons (.int .i64 0) (.cons (.sl true 1 .nil) .nil)))))))) (.e 6 (oX 102 (.call 7 [(.t 96),(.t 101)])) (.q 7 (oQ 95 (.mov (.t 102))) (.q 8 (oQ 103 (.ext (.t 95) 0)) (.q 9 (oQ 104 (.ext (.t 95) 1)) (.e 11 (oN (.st 5 (.t 13) (.t 103))) (.e 12 (oQ 14 (.mov (.t 104))) .done)))))))))
 (.e 10 (oX 13 (.alloc (.st (.cons (.int .i64 0) (.cons (.sl true 4 .nil) (.cons (.int .i64 0) (.cons (.int .i64 0) (.cons (.sl true 1 .nil) .nil)))))))) (.e 5 (oX 101 (.bld (.cons (.int .i64 0) (.cons (.int .i64 0) (.cons (.int .i64 0) (.cons (.int .i64 0) .nil)))) [(0,(kI 6)),(1,(.t 100))])) (.e 6 (oX 102 (.call 7 [(.t 96),(.t 101)])) (.q 7 (oQ 95 (.mov (.t 102))) (.q 8 (oQ 103 (.ext (.t 95) 0)) (.q 9 (oQ 104 (.ext (.t 95) 1)) (.e 11 (oN (.st 5 (.t 13) (.t 103))) (.e 12 (oQ 14 (.mov (.t 104))) .done))))))))))
 (.br (.e 5 (oX 101 (.bld (.cons (.int .i64 0) (.cons (.int .i64 0) (.cons (.int .i64 0) (.cons (.int .i64 0) .nil)))) [(0,(kI 6)),(1,(.t 100))])) (.br (.e 0 (oQ 96 (.ldv 5 (.t 3))) (.br (.e 6 (oX 102 (.call 7 [(.t 96),(.t 101)])) (.q 7 (oQ 95 (.mov (.t 102))) (.q 8 (oQ 103 (.ext (.t 95) 0)) (.q 9 (oQ 104 (.ext (.t 95) 1)) (.e 10 (oX 13 (.alloc (.st (.cons (.int .i64 0) (.cons (.sl true 4 .nil) (.cons (.int .i64 0) (.cons (.int .i64 0) (.cons (.sl true 1 .nil) .nil)))))))) (.e 11 (oN (.st 5 (.t 13) (.t 103))) (.e 12 (oQ 14 (.mov (.t 104))) .done)))))))
 (.e 10 (oX 13 (.alloc (.st (.cons (.int .i64 0) (.cons (.sl true 4 .nil) (.cons (.int .i64 0) (.cons (.int .i64 0) (.cons (.sl true 1 .nil) .nil)))))))) (.e 6 (oX 102 (.call 7 [(.t 96),(.t 101)])) (.q 7 (oQ 95 (.mov (.t 102))) (.q 8 (oQ 103 (.ext (.t 95) 0)) (.q 9 (oQ 104 (.ext (.t 95) 1)) (.e 11 (oN (.st 5 (.t 13) (.t 103))) (.e 12 (oQ 14 (.mov (.t 104))) .done)))))))))
 (.e 10 (oX 13 (.alloc (.st (.cons (.int .i64 0) (.cons (.sl true 4 .nil) (.cons (.int .i64 0) (.cons (.int .i64 0) (.cons (.sl true 1 .nil) .nil)))))))) (.e 0 (oQ 96 (.ldv 5 (.t 3))) (.e 6 (oX 102 (.call 7 [(.t 96),(.t 101)])) (.q 7 (oQ 95 (.mov (.t 102))) (.q 8 (oQ 103 (.ext (.t 95) 0)) (.q 9 (oQ 104 (.ext (.t 95) 1)) (.e 11 (oN (.st 5 (.t 13) (.t 103))) (.e 12 (oQ 14 (.mov (.t 104))) .done))))))))))
 (.e 10 (oX 13 (.alloc (.st (.cons (.int .i64 0) (.cons (.sl true 4 .nil) (.cons (.int .i64 0) (.cons (.int .i64 0) (.cons (.sl true 1 .nil) .nil)))))))) (.br (.e 0 (oQ 96 (.ldv 5 (.t 3))) (.e 5 (oX 101 (.bld (.cons (.int .i64 0) (.cons (.int .i64 0) (.cons (.int .i64 0) (.cons (.int .i64 0) .nil)))) [(0,(kI 6)),(1,(.t 100))])) (.e 6 (oX 102 (.call 7 [(.t 96),(.t 101)])) (.q 7 (oQ 95 (.mov (.t 102))) (.q 8 (oQ 103 (.ext (.t 95) 0)) (.q 9 (oQ 104 (.ext (.t 95) 1)) (.e 11 (oN (.st 5 (.t 13) (.t 103))) (.e 12 (oQ 14 (.mov (.t 104))) .done))))))))
 (.e 5 (oX 101 (.bld (.cons (.int .i64 0) (.cons (.int .i64 0) (.cons (.int .i64 0) (.cons (.int .i64 0) .nil)))) [(0,(kI 6)),(1,(.t 100))])) (.e 0 (oQ 96 (.ldv 5 (.t 3))) (.e 6 (oX 102 (.call 7 [(.t 96),(.t 101)])) (.q 7 (oQ 95 (.mov (.t 102))) (.q 8 (oQ 103 (.ext (.t 95) 0)) (.q 9 (oQ 104 (.ext (.t 95) 1)) (.e 11 (oN (.st 5 (.t 13) (.t 103))) (.e 12 (oQ 14 (.mov (.t 104))) .done)))))))))))))))))
 (.seq
 (.reg false [0,3,4,12,105] [oQ 105 (.mov (.t 14))])
 (.cond (.t 105)
 (.seq
 (.reg false [2] [oQ 2 (.mov (kB false))])
 .ret)
 .skip))))
 (.reg false [0,3,4,12] [oQ 93 (.mov (.t 12)),
 oQ 94 (.bin .add (.t 93) (kI 1)),
 oQ 12 (.mov (.t 94))]))))))
 (.seq
 (.reg false [0,15,16] [oQ 107 (.mov (.t 0)),
 oX 108 (.call 26 [(.t 107)]),
 oQ 106 (.mov (.t 108)),
 oQ 109 (.ext (.t 106) 0),
 oQ 110 (.ext (.t 106) 1),
 oX 15 (.alloc (.st (.cons (.int .i64 0) (.cons (.sl true 4 .nil) (.cons (.int .i64 0) (.cons (.int .i64 0) (.cons (.sl true 1 .nil) .nil))))))),
 oN (.st 5 (.t 15) (.t 109)),
 oQ 16 (.mov (.t 110))])
 (.seq
 (.reg false [0,15,16,17,18] [oQ 112 (.ldv 5 (.t 15)),
 oQ 113 (.mov (.t 16)),
 oX 114 (.call 27 [(.t 112),(.t 113)]),
 oQ 111 (.mov (.t 114)),
 oQ 115 (.ext (.t 111) 0),
 oQ 116 (.ext (.t 111) 1),
 oQ 17 (.mov (.t 115)),
 oQ 18 (.mov (.t 116))])
 (.seq
 (.seq
 (.reg false [0,15,16,17,18,19,20] [oQ 118 (.ldv 5 (.t 15)),
 oQ 119 (.mov (.t 16)),
 oX 120 (.call 28 [(.t 118),(.t 119)]),
 oQ 117 (.mov (.t 120)),
 oQ 121 (.ext (.t 117) 0),
 oQ 122 (.ext (.t 117) 1),
 oQ 19 (.mov (.t 121)),
 oQ 20 (.mov (.t 122))])
 (.seq
 (.reg false [0,15,16,17,18,131] [oQ 123 (.mov (.t 18)),
 oQ 124 (.mov (.t 20)),
 oQ 125 (.bb .neq (.t 123) (.t 124)),
 oQ 126 (.mov (.t 125)),
 oG 127 126 false (.mov (.t 17)),
 oG 128 126 false (.mov (.t 19)),
 oH 129 126 false (.call 23 [(.t 127),(.t 128)]),
 oG 130 126 false (.un .not (.t 129)),
 oQ 131 (.pick (.t 126) (kB true) (.t 130))])
 (.cond (.t 131)
 (.seq
 (.reg false [2] [oQ 2 (.mov (kB false))])
 .ret)
 .skip)))
 (.seq
 (.seq
 (.reg false [0,15,16,17,132] [oQ 132 (.mov (.t 18))])
 (.cond (.t 132)
 (.seq
 (.reg false [0,16,17,21,22] [oQ 134 (.ldv 5 (.t 15)),
 oQ 135 (.mov (.t 16)),
 oX 136 (.bld (.cons (.int .i64 0) (.cons (.int .i64 0) (.cons (.int .i64 0) (.cons (.int .i64 0) .nil)))) [(0,(kI 4)),(3,(.t 135))]),
 oX 137 (.call 7 [(.t 134),(.t 136)]),
 oQ 133 (.mov (.t 137)),
 oQ 138 (.ext (.t 133) 0),
 oQ 139 (.ext (.t 133) 1),
 oX 21 (.alloc (.st (.cons (.int .i64 0) (.cons (.sl true 4 .nil) (.cons (.int .i64 0) (.cons (.int .i64 0) (.cons (.sl true 1 .nil) .nil))))))),
 oN (.st 5 (.t 21) (.t 138)),
 oQ 22 (.mov (.t 139))])
 (.seq
 (.seq
 (.reg false [0,16,21,22,144] [oQ 140 (.mov (.t 22)),
 oQ 141 (.mov (.t 17)),
 oQ 142 (.len false (.t 141)),
 oQ 143 (.bin .gtr (.t 142) (kI 0)),
 oQ 144 (.bb .neq (.t 140) (.t 143))])
 (.cond (.t 144)
 (.seq
 (.reg false [2] [oQ 2 (.mov (kB false))])
 .ret)
 .skip))
 (.seq
 (.reg false [0,16,21,145] [oQ 145 (.mov (.t 22))])
 (.cond (.t 145)
 (.seq
 (.reg false [0,23,24] [oQ 147 (.ldv 5 (.t 21)),
 oQ 148 (.mov (.t 16)),
 oX 149 (.call 27 [(.t 147),(.t 148)]),
 oQ 146 (.mov (.t 149)),
 oQ 150 (.ext (.t 146) 0),
 oQ 151 (.ext (.t 146) 1),
 oQ 23 (.mov (.t 150)),
 oQ 24 (.mov (.t 151))])
 (.seq
 (.reg false [0,158] [oQ 152 (.mov (.t 24)),
 oQ 153 (.un .not (.t 152)),
 oQ 154 (.mov (.t 153)),
 oG 155 154 false (.mov (.t 23)),
 oG 156 154 false (.len false (.t 155)),
 oG 157 154 false (.bin .neq (.t 156) (kI 0)),
 oQ 158 (.pick (.t 154) (kB true) (.t 157))])
 (.cond (.t 158)
 (.seq
 (.reg false [2] [oQ 2 (.mov (kB false))])
 .ret)
 .skip)))
 .skip))))
 .skip))
 (.seq
 (.reg false [0,25] [oQ 159 (.mov (.t 0)),
 oX 160 (.call 29 [(.t 159)]),
 oX 25 (.alloc (.st (.cons (.int .i64 0) (.cons (.sl true 4 .nil) (.cons (.int .i64 0) (.cons (.int .i64 0) (.cons (.sl true 1 .nil) .nil))))))),
 oN (.st 5 (.t 25) (.t 160))])
 (.seq
 (.reg false [0,25,26,27] [oQ 162 (.ldv 5 (.t 25)),
 oX 163 (.call 30 [(.t 162)]),
 oQ 161 (.mov (.t 163)),
 oQ 164 (.ext (.t 161) 0),
 oQ 165 (.ext (.t 161) 1),
 oQ 26 (.mov (.t 164)),
 oQ 27 (.mov (.t 165))])
 (.seq
 (.seq
 (.reg false [0,26,27,28,29] [oQ 167 (.ldv 5 (.t 25)),
 oX 168 (.call 31 [(.t 167)]),
 oQ 166 (.mov (.t 168)),
 oQ 169 (.ext (.t 166) 0),
 oQ 170 (.ext (.t 166) 1),
 oQ 28 (.mov (.t 169)),
 oQ 29 (.mov (.t 170))])
 (.seq
 (.reg false [0,178] [oQ 171 (.mov (.t 26)),
 oQ 172 (.mov (.t 28)),
 oQ 173 (.bin .neq (.t 171) (.t 172)),
 oQ 174 (.mov (.t 173)),
 oG 175 174 false (.mov (.t 27)),
 oG 176 174 false (.mov (.t 29)),
 oG 177 174 false (.bb .neq (.t 175) (.t 176)),
 oQ 178 (.pick (.t 174) (kB true) (.t 177))])
 (.cond (.t 178)
 (.seq
 (.reg false [2] [oQ 2 (.mov (kB false))])
 .ret)
 .skip)))
 (.seq
 (.reg false [30,31] [oQ 180 (.mov (.t 0)),
 oX 181 (.call 32 [(.t 180)]),
 oQ 179 (.mov (.t 181)),
 oQ 182 (.ext (.t 179) 0),
 oQ 183 (.ext (.t 179) 1),
 oX 30 (.alloc (.st (.cons (.int .i64 0) (.cons (.sl true 4 .nil) (.cons (.int .i64 0) (.cons (.int .i64 0) (.cons (.sl true 1 .nil) .nil))))))),
 oN (.st 5 (.t 30) (.t 182)),
 oQ 31 (.mov (.t 183))])
 (.seq
 (.reg false [30,31,32,33] [oQ 185 (.ldv 5 (.t 30)),
 oQ 186 (.mov (.t 31)),
 oX 187 (.call 33 [(.t 185),(.t 186)]),
 oQ 184 (.mov (.t 187)),
 oQ 188 (.ext (.t 184) 0),
 oQ 189 (.ext (.t 184) 1),
 oQ 32 (.mov (.t 188)),
 oQ 33 (.mov (.t 189))])
 (.seq
 (.reg false [32,33,34,35] [oQ 191 (.ldv 5 (.t 30)),
 oQ 192 (.mov (.t 31)),
 oX 193 (.call 34 [(.t 191),(.t 192)]),
 oQ 190 (.mov (.t 193)),
 oQ 194 (.ext (.t 190) 0),
 oQ 195 (.ext (.t 190) 1),
 oQ 34 (.mov (.t 194)),
 oQ 35 (.mov (.t 195))])
 (.seq
 (.reg false [2] [oQ 196 (.mov (.t 32)),
 oQ 197 (.mov (.t 34)),
 oQ 198 (.bin .eql (.t 196) (.t 197)),
 oQ 199 (.mov (.t 198)),
 oG 200 199 true (.mov (.t 33)),
 oG 201 199 true (.mov (.t 35)),
 oG 202 199 true (.bb .eql (.t 200) (.t 201)),
 oQ 203 (.pick (.t 199) (.t 202) (kB false)),
 oQ 2 (.mov (.t 203))])
 .ret)))))))))))))))))))
theorem c4:(Go.Proofs.Tryz.f4).body.bind (comp prog.P (1,(Go.Proofs.Tryz.f4).ntmps) lv4)=some m4:=by kernel_rfl
theorem r4:b6 prog.P (Go.Proofs.Tryz.f4).results.toList=true:=by kernel_rfl
def lv5:List (Nat×List Nat):=[(0,[0]),(1,[2])]
def m5:MC :=
 (.seq
 (.reg false [0] [oQ 2 (.mov (kB false))])
 (.seq
 (.reg false [2] [oQ 3 (.mov (.t 0)),
 oQ 4 (.len false (.t 3)),
 oQ 5 (.bin .gtr (.t 4) (kI 65536)),
 oQ 2 (.mov (.t 5))])
 .ret))
theorem c5:(Go.Proofs.Tryz.f5).body.bind (comp prog.P (1,(Go.Proofs.Tryz.f5).ntmps) lv5)=some m5:=by kernel_rfl
theorem r5:b6 prog.P (Go.Proofs.Tryz.f5).results.toList=true:=by kernel_rfl
def lv7:List (Nat×List Nat):=[(0,[2,3,4]),(1,[2,3,4,15]),(2,[4,5]),(3,[3,4,6]),(4,[4,6,26]),(5,[4,5]),(6,[4,5])]
def m7:MC :=
 (.seq
 (.reg false [2,3,4] [oX 2 (.box (.t 0)),
 oX 3 (.box (.t 1)),
 oX 4 (.alloc (.st (.cons (.int .i64 0) (.cons (.sl true 4 .nil) (.cons (.int .i64 0) (.cons (.int .i64 0) (.cons (.sl true 1 .nil) .nil))))))),
 oQ 5 (.mov (kB false))])
 (.seq
 (.seq
 (.reg false [2,3,4,15] [oQ 7 (.ldv 5 (.t 2)),
 oX 8 (.call 10 [(.t 7)]),
 oQ 9 (.un .not (.t 8)),
 oQ 10 (.mov (.t 9)),
 oG 11 10 false (.fa 3 3 (.t 3)),
 oG 12 10 false (.ld none (.t 11)),
 oH 13 10 false (.call 37 [(.t 12),(kI 0),(kI 20000)]),
 oG 14 10 false (.un .not (.t 13)),
 oQ 15 (.pick (.t 10) (kB true) (.t 14))])
 (.cond (.t 15)
 (.seq
 (.reg false [4,5] [oX 16 (.bld (.cons (.int .i64 0) (.cons (.sl true 4 .nil) (.cons (.int .i64 0) (.cons (.int .i64 0) (.cons (.sl true 1 .nil) .nil))))) []),
 oN (.st 5 (.t 4) (.t 16)),
 oQ 5 (.mov (kB false))])
 .ret)
 .skip))
 (.seq
 (.reg false [3,4,6] [oQ 17 (.ldv 5 (.t 2)),
 oX 18 (.call 38 [(.t 17)]),
 oX 6 (.alloc (.st (.cons (.int .i64 0) (.cons (.sl true 4 .nil) (.cons (.int .i64 0) (.cons (.int .i64 0) (.cons (.sl true 1 .nil) .nil))))))),
 oN (.st 5 (.t 6) (.t 18))])
 (.seq
 (.seq
 (.reg false [4,6,26] [oQ 19 (.ld (some 4) (.t 3)),
 oX 20 (.call 39 [(.t 6),(.t 19)]),
 oQ 21 (.un .not (.t 20)),
 oQ 22 (.mov (.t 21)),
 oG 23 22 false (.ldv 5 (.t 6)),
 oH 24 22 false (.call 10 [(.t 23)]),
 oG 25 22 false (.un .not (.t 24)),
 oQ 26 (.pick (.t 22) (kB true) (.t 25))])
 (.cond (.t 26)
 (.seq
 (.reg false [4,5] [oX 27 (.bld (.cons (.int .i64 0) (.cons (.sl true 4 .nil) (.cons (.int .i64 0) (.cons (.int .i64 0) (.cons (.sl true 1 .nil) .nil))))) []),
 oN (.st 5 (.t 4) (.t 27)),
 oQ 5 (.mov (kB false))])
 .ret)
 .skip))
 (.seq
 (.reg false [4,5] [oQ 28 (.ldv 5 (.t 6)),
 oN (.st 5 (.t 4) (.t 28)),
 oQ 5 (.mov (kB true))])
 .ret)))))
theorem c7:(Go.Proofs.Tryz.f7).body.bind (comp prog.P (2,(Go.Proofs.Tryz.f7).ntmps) lv7)=some m7:=by kernel_rfl
theorem r7:b6 prog.P (Go.Proofs.Tryz.f7).results.toList=true:=by kernel_rfl
def lv8:List (Nat×List Nat):=[(0,[2,3,4]),(1,[2,3,4,16]),(2,[4,5]),(3,[4,6,7]),(4,[4,6,25]),(5,[4,5]),(6,[4,5])]
def m8:MC :=
 (.seq
 (.reg false [2,3,4] [oX 2 (.box (.t 0)),
 oX 3 (.box (.t 1)),
 oX 4 (.alloc (.st (.cons (.int .i64 0) (.cons (.sl true 4 .nil) (.cons (.int .i64 0) (.cons (.int .i64 0) (.cons (.sl true 1 .nil) .nil))))))),
 oQ 5 (.mov (kB false))])
 (.seq
 (.seq
 (.reg false [2,3,4,16] [oQ 8 (.ldv 5 (.t 2)),
 oX 9 (.call 40 [(.t 8)]),
 oQ 10 (.un .not (.t 9)),
 oQ 11 (.mov (.t 10)),
 oG 12 11 false (.ldv 5 (.t 2)),
 oG 13 11 false (.ld (some 4) (.t 3)),
 oH 14 11 false (.call 41 [(.t 12),(.t 13)]),
 oG 15 11 false (.un .not (.t 14)),
 oQ 16 (.pick (.t 11) (kB true) (.t 15))])
 (.cond (.t 16)
 (.seq
 (.reg false [4,5] [oX 17 (.bld (.cons (.int .i64 0) (.cons (.sl true 4 .nil) (.cons (.int .i64 0) (.cons (.int .i64 0) (.cons (.sl true 1 .nil) .nil))))) []),
 oN (.st 5 (.t 4) (.t 17)),
 oQ 5 (.mov (kB false))])
 .ret)
 .skip))
 (.seq
 (.reg false [4,6,7] [oQ 19 (.ldv 5 (.t 2)),
 oQ 20 (.ld (some 4) (.t 3)),
 oX 21 (.call 42 [(.t 19),(.t 20)]),
 oQ 18 (.mov (.t 21)),
 oQ 22 (.ext (.t 18) 0),
 oQ 23 (.ext (.t 18) 1),
 oX 6 (.alloc (.st (.cons (.int .i64 0) (.cons (.sl true 4 .nil) (.cons (.int .i64 0) (.cons (.int .i64 0) (.cons (.sl true 1 .nil) .nil))))))),
 oN (.st 5 (.t 6) (.t 22)),
 oQ 7 (.mov (.t 23))])
 (.seq
 (.seq
 (.reg false [4,6,25] [oQ 24 (.mov (.t 7)),
 oQ 25 (.un .not (.t 24))])
 (.cond (.t 25)
 (.seq
 (.reg false [4,5] [oX 26 (.bld (.cons (.int .i64 0) (.cons (.sl true 4 .nil) (.cons (.int .i64 0) (.cons (.int .i64 0) (.cons (.sl true 1 .nil) .nil))))) []),
 oN (.st 5 (.t 4) (.t 26)),
 oQ 5 (.mov (kB false))])
 .ret)
 .skip))
 (.seq
 (.reg false [4,5] [oQ 27 (.ldv 5 (.t 6)),
 oN (.st 5 (.t 4) (.t 27)),
 oQ 5 (.mov (kB true))])
 .ret)))))
theorem c8:(Go.Proofs.Tryz.f8).body.bind (comp prog.P (2,(Go.Proofs.Tryz.f8).ntmps) lv8)=some m8:=by kernel_rfl
theorem r8:b6 prog.P (Go.Proofs.Tryz.f8).results.toList=true:=by kernel_rfl
def aQU:List (Nat×List Nat):=[(0,[1]),(1,[1,38]),(2,[2]),(3,[1,40,41,42]),(4,[1,40,41,42,43]),(5,[1,3,4,40,41,42]),(6,[1,40,41,42,65]),(7,[2]),(8,[1,40,41,42]),(9,[2])]
def m10:MC :=
 (.seq
 (.reg false [1] [oX 1 (.box (.t 0)),
 oQ 2 (.mov (kB false))])
 (.seq
 (.seq
 (.reg false [1,38] [oQ 5 (.fa 0 0 (.t 1)),
 oQ 6 (.ld none (.t 5)),
 oX 7 (.call 44 [(.t 6)]),
 oQ 8 (.un .not (.t 7)),
 oQ 9 (.mov (.t 8)),
 oG 10 9 false (.fa 1 1 (.t 1)),
 oG 11 9 false (.ld none (.t 10)),
 oG 12 9 false (.len false (.t 11)),
 oG 13 9 false (.bin .gtr (.t 12) (kI 6)),
 oQ 14 (.pick (.t 9) (kB true) (.t 13)),
 oQ 15 (.mov (.t 14)),
 oG 16 15 false (.fa 2 2 (.t 1)),
 oG 17 15 false (.ld none (.t 16)),
 oH 18 15 false (.call 37 [(.t 17),(kI 0),(kI 999)]),
 oG 19 15 false (.un .not (.t 18)),
 oQ 20 (.pick (.t 15) (kB true) (.t 19)),
 oQ 21 (.mov (.t 20)),
 oG 22 21 false (.fa 3 3 (.t 1)),
 oG 23 21 false (.ld none (.t 22)),
 oH 24 21 false (.call 37 [(.t 23),(kI 0),(kI 999)]),
 oG 25 21 false (.un .not (.t 24)),
 oQ 26 (.pick (.t 21) (kB true) (.t 25)),
 oQ 27 (.mov (.t 26)),
 oG 28 27 false (.fa 4 4 (.t 1)),
 oG 29 27 false (.ld none (.t 28)),
 oG 30 27 false (.len false (.t 29)),
 oG 31 27 false (.bin .gtr (.t 30) (kI 0)),
 oG 32 27 false (.mov (.t 31)),
 oG 33 32 true (.fa 4 4 (.t 1)),
 oG 34 32 true (.ld none (.t 33)),
 oH 35 32 true (.call 45 [(.t 34)]),
 oG 36 32 true (.un .not (.t 35)),
 oG 37 27 false (.pick (.t 32) (.t 36) (kB false)),
 oQ 38 (.pick (.t 27) (kB true) (.t 37))])
 (.cond (.t 38)
 (.seq
 (.reg false [2] [oQ 2 (.mov (kB false))])
 .ret)
 .skip))
 (.seq
 (.seq
 (.reg false [1,40,41,42] [oQ 39 (.fa 1 1 (.t 1)),
 oQ 40 (.ld none (.t 39)),
 oQ 41 (.len false (.t 40)),
 oQ 42 (.mov (kI 0))])
 (.block 0
 (.loop
 (.seq
 (.reg false [1,40,41,42,43] [oQ 43 (.bin .lss (.t 42) (.t 41))])
 (.seq
 (.cond (.t 43)
 .skip
 (.exit 0))
 (.seq
 (.block 1
 (.seq
 (.reg false [1,3,4,40,41,42] [oQ 44 (.mov (.t 42)),
 oQ 45 (.ia 4 (.t 40) (.t 42)),
 oQ 46 (.ld (some 4) (.t 45)),
 oX 4 (.alloc (.st (.cons (.int .i64 0) (.cons (.int .i64 0) (.cons (.int .i64 0) (.cons (.sl true 1 .nil) .nil)))))),
 oQ 3 (.mov (.t 44)),
 oN (.st 4 (.t 4) (.t 46))])
 (.seq
 (.reg true [1,40,41,42,65] [oQ 47 (.ld (some 4) (.t 4)),
 oQ 48 (.callP 46 [(.t 47)]),
 oQ 49 (.un .not (.t 48)),
 oQ 50 (.mov (.t 49)),
 oG 51 50 false (.mov (.t 3)),
 oG 52 50 false (.bin .gtr (.t 51) (kI 0)),
 oG 53 50 false (.mov (.t 52)),
 oG 54 53 true (.fa 1 1 (.t 1)),
 oG 55 53 true (.ld none (.t 54)),
 oG 56 53 true (.mov (.t 3)),
 oG 57 53 true (.bin .sub (.t 56) (kI 1)),
 oG 58 53 true (.ia 4 (.t 55) (.t 57)),
 oG 59 53 true (.fa 0 0 (.t 58)),
 oG 60 53 true (.ld none (.t 59)),
 oG 61 53 true (.fa 0 0 (.t 4)),
 oG 62 53 true (.ld none (.t 61)),
 oG 63 53 true (.bin .geq (.t 60) (.t 62)),
 oG 64 50 false (.pick (.t 53) (.t 63) (kB false)),
 oQ 65 (.pick (.t 50) (kB true) (.t 64))])
 (.cond (.t 65)
 (.seq
 (.reg false [2] [oQ 2 (.mov (kB false))])
 .ret)
 .skip))))
 (.reg false [1,40,41,42] [oQ 66 (.bin .add (.t 42) (kI 1)),
 oQ 42 (.mov (.t 66))])))))))
 (.seq
 (.reg false [2] [oQ 2 (.mov (kB true))])
 .ret))))
theorem c10:(Go.Proofs.Tryz.f10).body.bind (comp prog.P (1,(Go.Proofs.Tryz.f10).ntmps) aQU)=some m10:=by kernel_rfl
theorem r10:b6 prog.P (Go.Proofs.Tryz.f10).results.toList=true:=by kernel_rfl
def aSj:List (Nat×List Nat):=[(0,[1]),(1,[1,6]),(2,[2,3]),(3,[2,3])]
def m12:MC :=
 (.seq
 (.reg false [1] [oX 1 (.box (.t 0)),
 oQ 2 (.mov (.k .nil)),
 oQ 3 (.mov (kB false))])
 (.seq
 (.seq
 (.reg false [1,6] [oQ 4 (.ldv 5 (.t 1)),
 oX 5 (.call 10 [(.t 4)]),
 oQ 6 (.un .not (.t 5))])
 (.cond (.t 6)
 (.seq
 (.reg false [2,3] [oQ 2 (.mov (.k .nil)),
 oQ 3 (.mov (kB false))])
 .ret)
 .skip))
 (.seq
 (.reg false [2,3] [oQ 7 (.ldv 5 (.t 1)),
 oQ 8 (.clos 48 [(.t 1)]),
 oX 9 (.call 47 [(.t 7),(.t 8)]),
 oQ 2 (.mov (.t 9)),
 oQ 3 (.mov (kB true))])
 .ret)))
theorem c12:(Go.Proofs.Tryz.f12).body.bind (comp prog.P (1,(Go.Proofs.Tryz.f12).ntmps) aSj)=some m12:=by kernel_rfl
theorem r12:b6 prog.P (Go.Proofs.Tryz.f12).results.toList=true:=by kernel_rfl
def aPV:List (Nat×List Nat):=[(0,[1]),(1,[1,6]),(2,[2,3]),(3,[2,3])]
def m13:MC :=
 (.seq
 (.reg false [1] [oX 1 (.box (.t 0)),
 oQ 2 (.mov (.k .nil)),
 oQ 3 (.mov (kB false))])
 (.seq
 (.seq
 (.reg false [1,6] [oQ 4 (.ldv 5 (.t 1)),
 oX 5 (.call 10 [(.t 4)]),
 oQ 6 (.un .not (.t 5))])
 (.cond (.t 6)
 (.seq
 (.reg false [2,3] [oQ 2 (.mov (.k .nil)),
 oQ 3 (.mov (kB false))])
 .ret)
 .skip))
 (.seq
 (.reg false [2,3] [oQ 7 (.ldv 5 (.t 1)),
 oQ 8 (.clos 49 [(.t 1)]),
 oX 9 (.call 47 [(.t 7),(.t 8)]),
 oQ 2 (.mov (.t 9)),
 oQ 3 (.mov (kB true))])
 .ret)))
theorem c13:(Go.Proofs.Tryz.f13).body.bind (comp prog.P (1,(Go.Proofs.Tryz.f13).ntmps) aPV)=some m13:=by kernel_rfl
theorem r13:b6 prog.P (Go.Proofs.Tryz.f13).results.toList=true:=by kernel_rfl
def aQc:List (Nat×List Nat):=[(0,[0,1]),(1,[0,1,5]),(2,[0,1,5,9]),(3,[0,1,5]),(4,[0,1,5,17]),(5,[4]),(6,[4])]
def m14:MC :=
 (.seq
 (.reg false [0,1] [oQ 4 (.mov (kB false))])
 (.seq
 (.seq
 (.reg false [0,1,5] [oQ 5 (.mov (kI 0))])
 (.block 0
 (.loop
 (.seq
 (.seq
 (.reg false [0,1,5,9] [oQ 6 (.mov (.t 5)),
 oQ 7 (.mov (.t 0)),
 oQ 8 (.len false (.t 7)),
 oQ 9 (.bin .lss (.t 6) (.t 8))])
 (.cond (.t 9)
 .skip
 (.exit 0)))
 (.seq
 (.block 1
 (.seq
 (.reg false [0,1,5,17] [oQ 12 (.mov (.t 0)),
 oQ 13 (.mov (.t 5)),
 oQ 14 (.ia 1 (.t 12) (.t 13)),
 oQ 15 (.ld none (.t 14)),
 oQ 16 (.mov (.t 1)),
 oQ 17 (.bin .eql (.t 15) (.t 16))])
 (.cond (.t 17)
 (.seq
 (.reg false [4] [oQ 4 (.mov (kB true))])
 .ret)
 .skip)))
 (.reg false [0,1,5] [oQ 10 (.mov (.t 5)),
 oQ 11 (.bin .add (.t 10) (kI 1)),
 oQ 5 (.mov (.t 11))]))))))
 (.seq
 (.reg false [4] [oQ 4 (.mov (kB false))])
 .ret)))
theorem c14:(Go.Proofs.Tryz.f14).body.bind (comp prog.P (2,(Go.Proofs.Tryz.f14).ntmps) aQc)=some m14:=by kernel_rfl
theorem r14:b6 prog.P (Go.Proofs.Tryz.f14).results.toList=true:=by kernel_rfl
def aQ0:List (Nat×List Nat):=[(0,[0,2]),(1,[0,2,6]),(2,[2,3]),(3,[2,3])]
def m20:MC :=
 (.seq
 (.reg false [0,2] [oX 2 (.alloc (.st (.cons (.int .i64 0) (.cons (.sl true 4 .nil) (.cons (.int .i64 0) (.cons (.int .i64 0) (.cons (.sl true 1 .nil) .nil))))))),
 oQ 3 (.mov (kB false))])
 (.seq
 (.seq
 (.reg false [0,2,6] [oQ 4 (.mov (.t 0)),
 oX 5 (.call 54 [(.t 4)]),
 oQ 6 (.un .not (.t 5))])
 (.cond (.t 6)
 (.seq
 (.reg false [2,3] [oX 7 (.bld (.cons (.int .i64 0) (.cons (.sl true 4 .nil) (.cons (.int .i64 0) (.cons (.int .i64 0) (.cons (.sl true 1 .nil) .nil))))) []),
 oN (.st 5 (.t 2) (.t 7)),
 oQ 3 (.mov (kB false))])
 .ret)
 .skip))
 (.seq
 (.reg false [2,3] [oQ 8 (.mov (.t 0)),
 oX 9 (.bs 4 0 (.st (.cons (.int .i64 0) (.cons (.int .i64 0) (.cons (.int .i64 0) (.cons (.sl true 1 .nil) .nil))))) []),
 oX 10 (.bs 1 0 (.str []) []),
 oX 11 (.bld (.cons (.int .i64 0) (.cons (.sl true 4 .nil) (.cons (.int .i64 0) (.cons (.int .i64 0) (.cons (.sl true 1 .nil) .nil))))) [(0,(.t 8)),(1,(.t 9)),(4,(.t 10))]),
 oN (.st 5 (.t 2) (.t 11)),
 oQ 3 (.mov (kB true))])
 .ret)))
theorem c20:(Go.Proofs.Tryz.f20).body.bind (comp prog.P (1,(Go.Proofs.Tryz.f20).ntmps) aQ0)=some m20:=by kernel_rfl
theorem r20:b6 prog.P (Go.Proofs.Tryz.f20).results.toList=true:=by kernel_rfl
def aSH:List (Nat×List Nat):=[(0,[0,2]),(1,[2])]
def m21:MC :=
 (.seq
 (.reg false [0,2] [oX 2 (.alloc (.st (.cons (.int .i64 0) (.cons (.sl true 4 .nil) (.cons (.int .i64 0) (.cons (.int .i64 0) (.cons (.sl true 1 .nil) .nil)))))))])
 (.seq
 (.reg false [2] [oQ 3 (.mov (.t 0)),
 oX 4 (.call 55 [(.t 3)]),
 oN (.st 5 (.t 2) (.t 4))])
 .ret))
theorem c21:(Go.Proofs.Tryz.f21).body.bind (comp prog.P (1,(Go.Proofs.Tryz.f21).ntmps) aSH)=some m21:=by kernel_rfl
theorem r21:b6 prog.P (Go.Proofs.Tryz.f21).results.toList=true:=by kernel_rfl
def aQP:List (Nat×List Nat):=[(0,[1]),(1,[1,4]),(2,[1,4,10]),(3,[2,3]),(4,[1,4,5]),(5,[1,4,5,16]),(6,[1,4,5]),(7,[1,4,5,6]),(8,[1,4,5,6,39]),(9,[1,4,5]),(10,[2,3])]
def m22:MC :=
 (.seq
 (.reg false [1] [oX 1 (.box (.t 0)),
 oQ 2 (.mov (.k .nil)),
 oQ 3 (.mov (kB false))])
 (.seq
 (.reg false [1,4] [oX 7 (.bs 1 0 (.int .i64 0) []),
 oQ 4 (.mov (.t 7))])
 (.seq
 (.seq
 (.reg false [1,4,10] [oQ 8 (.ldv 5 (.t 1)),
 oX 9 (.call 40 [(.t 8)]),
 oQ 10 (.un .not (.t 9))])
 (.cond (.t 10)
 (.seq
 (.reg false [2,3] [oQ 11 (.mov (.t 4)),
 oQ 2 (.mov (.t 11)),
 oQ 3 (.mov (kB false))])
 .ret)
 .skip))
 (.seq
 (.seq
 (.reg false [1,4,5] [oQ 5 (.mov (kI 0))])
 (.block 0
 (.loop
 (.seq
 (.seq
 (.reg false [1,4,5,16] [oQ 12 (.mov (.t 5)),
 oQ 13 (.fa 1 1 (.t 1)),
 oQ 14 (.ld none (.t 13)),
 oQ 15 (.len false (.t 14)),
 oQ 16 (.bin .lss (.t 12) (.t 15))])
 (.cond (.t 16)
 .skip
 (.exit 0)))
 (.seq
 (.block 1
 (.seq
 (.reg false [1,4,5,6] [oQ 19 (.fa 1 1 (.t 1)),
 oQ 20 (.ld none (.t 19)),
 oQ 21 (.mov (.t 5)),
 oQ 22 (.ia 4 (.t 20) (.t 21)),
 oQ 23 (.ld (some 4) (.t 22)),
 oX 6 (.alloc (.st (.cons (.int .i64 0) (.cons (.int .i64 0) (.cons (.int .i64 0) (.cons (.sl true 1 .nil) .nil)))))),
 oN (.st 4 (.t 6) (.t 23))])
 (.seq
 (.reg false [1,4,5,6,39] [oQ 24 (.fa 2 2 (.t 6)),
 oQ 25 (.ld none (.t 24)),
 oQ 26 (.fa 0 0 (.t 1)),
 oQ 27 (.ld none (.t 26)),
 oQ 28 (.bin .leq (.t 25) (.t 27)),
 oQ 29 (.mov (.t 28)),
 oG 30 29 true (.fa 1 1 (.t 6)),
 oG 31 29 true (.ld none (.t 30)),
 oG 32 29 true (.bin .eql (.t 31) (kI 3)),
 oQ 33 (.pick (.t 29) (.t 32) (kB false)),
 oQ 34 (.mov (.t 33)),
 oG 35 34 true (.fa 3 3 (.t 6)),
 oG 36 34 true (.ld none (.t 35)),
 oG 37 34 true (.len false (.t 36)),
 oG 38 34 true (.bin .gtr (.t 37) (kI 0)),
 oQ 39 (.pick (.t 34) (.t 38) (kB false))])
 (.cond (.t 39)
 (.reg false [1,4,5] [oQ 40 (.mov (.t 4)),
 oQ 41 (.fa 0 0 (.t 6)),
 oQ 42 (.ld none (.t 41)),
 oX 43 (.bs 1 1 (.int .i64 0) [(0,(.t 42))]),
 oX 44 (.app 1 8 (.t 40) (.t 43)),
 oQ 4 (.mov (.t 44))])
 .skip))))
 (.reg false [1,4,5] [oQ 17 (.mov (.t 5)),
 oQ 18 (.bin .add (.t 17) (kI 1)),
 oQ 5 (.mov (.t 18))]))))))
 (.seq
 (.reg false [2,3] [oQ 45 (.mov (.t 4)),
 oQ 2 (.mov (.t 45)),
 oQ 3 (.mov (kB true))])
 .ret)))))
theorem c22:(Go.Proofs.Tryz.f22).body.bind (comp prog.P (1,(Go.Proofs.Tryz.f22).ntmps) aQP)=some m22:=by kernel_rfl
theorem r22:b6 prog.P (Go.Proofs.Tryz.f22).results.toList=true:=by kernel_rfl
def aQm:List (Nat×List Nat):=[(0,[0,1]),(1,[0,1,10]),(2,[4]),(3,[0,1,5]),(4,[0,1,5,14]),(5,[0,1,5]),(6,[0,1,5,25]),(7,[4]),(8,[4])]
def m23:MC :=
 (.seq
 (.reg false [0,1] [oQ 4 (.mov (kB false))])
 (.seq
 (.seq
 (.reg false [0,1,10] [oQ 6 (.mov (.t 0)),
 oQ 7 (.len false (.t 6)),
 oQ 8 (.mov (.t 1)),
 oQ 9 (.len false (.t 8)),
 oQ 10 (.bin .neq (.t 7) (.t 9))])
 (.cond (.t 10)
 (.seq
 (.reg false [4] [oQ 4 (.mov (kB false))])
 .ret)
 .skip))
 (.seq
 (.seq
 (.reg false [0,1,5] [oQ 5 (.mov (kI 0))])
 (.block 0
 (.loop
 (.seq
 (.seq
 (.reg false [0,1,5,14] [oQ 11 (.mov (.t 5)),
 oQ 12 (.mov (.t 0)),
 oQ 13 (.len false (.t 12)),
 oQ 14 (.bin .lss (.t 11) (.t 13))])
 (.cond (.t 14)
 .skip
 (.exit 0)))
 (.seq
 (.block 1
 (.seq
 (.reg true [0,1,5,25] [oQ 17 (.mov (.t 0)),
 oQ 18 (.mov (.t 5)),
 oQ 19 (.ia 1 (.t 17) (.t 18)),
 oQ 20 (.ld none (.t 19)),
 oQ 21 (.mov (.t 1)),
 oQ 22 (.mov (.t 5)),
 oQ 23 (.ia 1 (.t 21) (.t 22)),
 oQ 24 (.ld none (.t 23)),
 oQ 25 (.bin .neq (.t 20) (.t 24))])
 (.cond (.t 25)
 (.seq
 (.reg false [4] [oQ 4 (.mov (kB false))])
 .ret)
 .skip)))
 (.reg false [0,1,5] [oQ 15 (.mov (.t 5)),
 oQ 16 (.bin .add (.t 15) (kI 1)),
 oQ 5 (.mov (.t 16))]))))))
 (.seq
 (.reg false [4] [oQ 4 (.mov (kB true))])
 .ret))))
theorem c23:(Go.Proofs.Tryz.f23).body.bind (comp prog.P (2,(Go.Proofs.Tryz.f23).ntmps) aQm)=some m23:=by kernel_rfl
theorem r23:b6 prog.P (Go.Proofs.Tryz.f23).results.toList=true:=by kernel_rfl
def aSw:List (Nat×List Nat):=[(0,[1]),(1,[1,4]),(2,[1,4,9]),(3,[2,3]),(4,[1,4,5]),(5,[1,4,5,15]),(6,[1,4,5]),(7,[1,4,5,26]),(8,[1,4,5]),(9,[2,3])]
def m24:MC :=
 (.seq
 (.reg false [1] [oX 1 (.box (.t 0)),
 oQ 2 (.mov (.k .nil)),
 oQ 3 (.mov (kB false))])
 (.seq
 (.reg false [1,4] [oX 6 (.bs 1 0 (.int .i64 0) []),
 oQ 4 (.mov (.t 6))])
 (.seq
 (.seq
 (.reg false [1,4,9] [oQ 7 (.ldv 5 (.t 1)),
 oX 8 (.call 40 [(.t 7)]),
 oQ 9 (.un .not (.t 8))])
 (.cond (.t 9)
 (.seq
 (.reg false [2,3] [oQ 10 (.mov (.t 4)),
 oQ 2 (.mov (.t 10)),
 oQ 3 (.mov (kB false))])
 .ret)
 .skip))
 (.seq
 (.seq
 (.reg false [1,4,5] [oQ 5 (.mov (kI 0))])
 (.block 0
 (.loop
 (.seq
 (.seq
 (.reg false [1,4,5,15] [oQ 11 (.mov (.t 5)),
 oQ 12 (.fa 1 1 (.t 1)),
 oQ 13 (.ld none (.t 12)),
 oQ 14 (.len false (.t 13)),
 oQ 15 (.bin .lss (.t 11) (.t 14))])
 (.cond (.t 15)
 .skip
 (.exit 0)))
 (.seq
 (.block 1
 (.seq
 (.reg true [1,4,5,26] [oQ 18 (.fa 1 1 (.t 1)),
 oQ 19 (.ld none (.t 18)),
 oQ 20 (.mov (.t 5)),
 oQ 21 (.ia 4 (.t 19) (.t 20)),
 oQ 22 (.fa 2 2 (.t 21)),
 oQ 23 (.ld none (.t 22)),
 oQ 24 (.fa 0 0 (.t 1)),
 oQ 25 (.ld none (.t 24)),
 oQ 26 (.bin .leq (.t 23) (.t 25))])
 (.cond (.t 26)
 (.reg false [1,4,5] [oQ 27 (.mov (.t 4)),
 oQ 28 (.fa 1 1 (.t 1)),
 oQ 29 (.ld none (.t 28)),
 oQ 30 (.mov (.t 5)),
 oQ 31 (.ia 4 (.t 29) (.t 30)),
 oQ 32 (.fa 0 0 (.t 31)),
 oQ 33 (.ld none (.t 32)),
 oX 34 (.bs 1 1 (.int .i64 0) [(0,(.t 33))]),
 oX 35 (.app 1 8 (.t 27) (.t 34)),
 oQ 4 (.mov (.t 35))])
 .skip)))
 (.reg false [1,4,5] [oQ 16 (.mov (.t 5)),
 oQ 17 (.bin .add (.t 16) (kI 1)),
 oQ 5 (.mov (.t 17))]))))))
 (.seq
 (.reg false [2,3] [oQ 36 (.mov (.t 4)),
 oQ 2 (.mov (.t 36)),
 oQ 3 (.mov (kB true))])
 .ret)))))
theorem c24:(Go.Proofs.Tryz.f24).body.bind (comp prog.P (1,(Go.Proofs.Tryz.f24).ntmps) aSw)=some m24:=by kernel_rfl
theorem r24:b6 prog.P (Go.Proofs.Tryz.f24).results.toList=true:=by kernel_rfl
def aSo:List (Nat×List Nat):=[(0,[0,1]),(1,[0,1,5]),(2,[0,1,5,9]),(3,[0,1,5]),(4,[0,1,5,18]),(5,[4]),(6,[4])]
def m25:MC :=
 (.seq
 (.reg false [0,1] [oQ 4 (.mov (kB false))])
 (.seq
 (.seq
 (.reg false [0,1,5] [oQ 5 (.mov (kI 0))])
 (.block 0
 (.loop
 (.seq
 (.seq
 (.reg false [0,1,5,9] [oQ 6 (.mov (.t 5)),
 oQ 7 (.mov (.t 0)),
 oQ 8 (.len false (.t 7)),
 oQ 9 (.bin .lss (.t 6) (.t 8))])
 (.cond (.t 9)
 .skip
 (.exit 0)))
 (.seq
 (.block 1
 (.seq
 (.reg false [0,1,5,18] [oQ 12 (.mov (.t 1)),
 oQ 13 (.mov (.t 0)),
 oQ 14 (.mov (.t 5)),
 oQ 15 (.ia 1 (.t 13) (.t 14)),
 oQ 16 (.ld none (.t 15)),
 oX 17 (.call 14 [(.t 12),(.t 16)]),
 oQ 18 (.un .not (.t 17))])
 (.cond (.t 18)
 (.seq
 (.reg false [4] [oQ 4 (.mov (kB false))])
 .ret)
 .skip)))
 (.reg false [0,1,5] [oQ 10 (.mov (.t 5)),
 oQ 11 (.bin .add (.t 10) (kI 1)),
 oQ 5 (.mov (.t 11))]))))))
 (.seq
 (.reg false [4] [oQ 4 (.mov (kB true))])
 .ret)))
theorem c25:(Go.Proofs.Tryz.f25).body.bind (comp prog.P (2,(Go.Proofs.Tryz.f25).ntmps) aSo)=some m25:=by kernel_rfl
theorem r25:b6 prog.P (Go.Proofs.Tryz.f25).results.toList=true:=by kernel_rfl
def aSu:List (Nat×List Nat):=[(0,[0,2]),(1,[2,4]),(2,[2,3])]
def m26:MC :=
 (.seq
 (.reg false [0,2] [oX 2 (.alloc (.st (.cons (.int .i64 0) (.cons (.sl true 4 .nil) (.cons (.int .i64 0) (.cons (.int .i64 0) (.cons (.sl true 1 .nil) .nil))))))),
 oQ 3 (.mov (kI 0))])
 (.seq
 (.reg false [2,4] [oQ 5 (.mov (.t 0)),
 oX 6 (.bld (.cons (.sl true 1 .nil) (.cons (.int .i64 0) (.cons (.int .u64 0) .nil))) [(0,(.t 5))]),
 oX 7 (.box (.t 6)),
 oQ 4 (.mov (.t 7))])
 (.seq
 (.reg false [2,3] [oQ 8 (.mov (.t 4)),
 oX 9 (.call 35 [(.t 8)]),
 oQ 10 (.mov (.t 4)),
 oX 11 (.bs 1 6 (.int .i64 0) [(0,(kI 1)),(1,(kI 2)),(2,(kI 2)),(3,(kI 9)),(4,(kI 0)),(5,(kI 10))]),
 oX 12 (.call 56 [(.t 10),(.t 11)]),
 oN (.st 5 (.t 2) (.t 9)),
 oQ 3 (.mov (.t 12))])
 .ret)))
theorem c26:(Go.Proofs.Tryz.f26).body.bind (comp prog.P (1,(Go.Proofs.Tryz.f26).ntmps) aSu)=some m26:=by kernel_rfl
theorem r26:b6 prog.P (Go.Proofs.Tryz.f26).results.toList=true:=by kernel_rfl
def aPY:List (Nat×List Nat):=[(0,[2,3]),(1,[2,3,13]),(2,[4,5]),(3,[4,5])]
def m27:MC :=
 (.seq
 (.reg false [2,3] [oX 2 (.box (.t 0)),
 oX 3 (.box (.t 1)),
 oQ 4 (.mov (.k .nil)),
 oQ 5 (.mov (kB false))])
 (.seq
 (.seq
 (.reg false [2,3,13] [oQ 6 (.ldv 5 (.t 2)),
 oX 7 (.call 10 [(.t 6)]),
 oQ 8 (.un .not (.t 7)),
 oQ 9 (.mov (.t 8)),
 oG 10 9 false (.ld none (.t 3)),
 oH 11 9 false (.call 57 [(.t 10)]),
 oG 12 9 false (.un .not (.t 11)),
 oQ 13 (.pick (.t 9) (kB true) (.t 12))])
 (.cond (.t 13)
 (.seq
 (.reg false [4,5] [oQ 4 (.mov (.k .nil)),
 oQ 5 (.mov (kB false))])
 .ret)
 .skip))
 (.seq
 (.reg false [4,5] [oQ 14 (.ldv 5 (.t 2)),
 oQ 15 (.clos 58 [(.t 3)]),
 oX 16 (.call 47 [(.t 14),(.t 15)]),
 oQ 4 (.mov (.t 16)),
 oQ 5 (.mov (kB true))])
 .ret)))
theorem c27:(Go.Proofs.Tryz.f27).body.bind (comp prog.P (2,(Go.Proofs.Tryz.f27).ntmps) aPY)=some m27:=by kernel_rfl
theorem r27:b6 prog.P (Go.Proofs.Tryz.f27).results.toList=true:=by kernel_rfl
def aRT:List (Nat×List Nat):=[(0,[1,2]),(1,[1,2,6]),(2,[1,2,6,16]),(3,[4,5]),(4,[1,2,6,7]),(5,[1,2,6,7,22]),(6,[1,2,6,7]),(7,[1,2,6,7,32]),(8,[1,2,6,7]),(9,[4,5])]
def m28:MC :=
 (.seq
 (.reg false [1,2] [oX 2 (.box (.t 0)),
 oQ 4 (.mov (.k .nil)),
 oQ 5 (.mov (kB false))])
 (.seq
 (.reg false [1,2,6] [oX 8 (.bs 1 0 (.int .i64 0) []),
 oQ 6 (.mov (.t 8))])
 (.seq
 (.seq
 (.reg false [1,2,6,16] [oQ 9 (.ldv 5 (.t 2)),
 oX 10 (.call 40 [(.t 9)]),
 oQ 11 (.un .not (.t 10)),
 oQ 12 (.mov (.t 11)),
 oG 13 12 false (.mov (.t 1)),
 oH 14 12 false (.call 60 [(.t 13),(kI 1),(kI 9)]),
 oG 15 12 false (.un .not (.t 14)),
 oQ 16 (.pick (.t 12) (kB true) (.t 15))])
 (.cond (.t 16)
 (.seq
 (.reg false [4,5] [oQ 17 (.mov (.t 6)),
 oQ 4 (.mov (.t 17)),
 oQ 5 (.mov (kB false))])
 .ret)
 .skip))
 (.seq
 (.seq
 (.reg false [1,2,6,7] [oQ 7 (.mov (kI 0))])
 (.block 0
 (.loop
 (.seq
 (.seq
 (.reg false [1,2,6,7,22] [oQ 18 (.mov (.t 7)),
 oQ 19 (.fa 1 1 (.t 2)),
 oQ 20 (.ld none (.t 19)),
 oQ 21 (.len false (.t 20)),
 oQ 22 (.bin .lss (.t 18) (.t 21))])
 (.cond (.t 22)
 .skip
 (.exit 0)))
 (.seq
 (.block 1
 (.seq
 (.reg false [1,2,6,7,32] [oQ 25 (.fa 1 1 (.t 2)),
 oQ 26 (.ld none (.t 25)),
 oQ 27 (.mov (.t 7)),
 oQ 28 (.ia 4 (.t 26) (.t 27)),
 oQ 29 (.fa 3 3 (.t 28)),
 oQ 30 (.ld none (.t 29)),
 oQ 31 (.mov (.t 1)),
 oX 32 (.call 61 [(.t 30),(.t 31)])])
 (.cond (.t 32)
 (.reg false [1,2,6,7] [oQ 33 (.mov (.t 6)),
 oQ 34 (.fa 1 1 (.t 2)),
 oQ 35 (.ld none (.t 34)),
 oQ 36 (.mov (.t 7)),
 oQ 37 (.ia 4 (.t 35) (.t 36)),
 oQ 38 (.fa 0 0 (.t 37)),
 oQ 39 (.ld none (.t 38)),
 oX 40 (.bs 1 1 (.int .i64 0) [(0,(.t 39))]),
 oX 41 (.app 1 8 (.t 33) (.t 40)),
 oQ 6 (.mov (.t 41))])
 .skip)))
 (.reg false [1,2,6,7] [oQ 23 (.mov (.t 7)),
 oQ 24 (.bin .add (.t 23) (kI 1)),
 oQ 7 (.mov (.t 24))]))))))
 (.seq
 (.reg false [4,5] [oQ 42 (.mov (.t 6)),
 oQ 4 (.mov (.t 42)),
 oQ 5 (.mov (kB true))])
 .ret)))))
theorem c28:(Go.Proofs.Tryz.f28).body.bind (comp prog.P (2,(Go.Proofs.Tryz.f28).ntmps) aRT)=some m28:=by kernel_rfl
theorem r28:b6 prog.P (Go.Proofs.Tryz.f28).results.toList=true:=by kernel_rfl
def aQw:List (Nat×List Nat):=[(0,[0,2]),(1,[2])]
def m29:MC :=
 (.seq
 (.reg false [0,2] [oX 2 (.alloc (.st (.cons (.int .i64 0) (.cons (.sl true 4 .nil) (.cons (.int .i64 0) (.cons (.int .i64 0) (.cons (.sl true 1 .nil) .nil)))))))])
 (.seq
 (.reg false [2] [oQ 3 (.mov (.t 0)),
 oX 4 (.call 55 [(.t 3)]),
 oN (.st 5 (.t 2) (.t 4))])
 .ret))
theorem c29:(Go.Proofs.Tryz.f29).body.bind (comp prog.P (1,(Go.Proofs.Tryz.f29).ntmps) aQw)=some m29:=by kernel_rfl
theorem r29:b6 prog.P (Go.Proofs.Tryz.f29).results.toList=true:=by kernel_rfl
def aR3:List (Nat×List Nat):=[(0,[1]),(1,[1,6]),(2,[2,3]),(3,[2,3])]
def m30:MC :=
 (.seq
 (.reg false [1] [oX 1 (.box (.t 0)),
 oQ 2 (.mov (kI 0)),
 oQ 3 (.mov (kB false))])
 (.seq
 (.seq
 (.reg false [1,6] [oQ 4 (.ldv 5 (.t 1)),
 oX 5 (.call 10 [(.t 4)]),
 oQ 6 (.un .not (.t 5))])
 (.cond (.t 6)
 (.seq
 (.reg false [2,3] [oQ 2 (.mov (kI 0)),
 oQ 3 (.mov (kB false))])
 .ret)
 .skip))
 (.seq
 (.reg false [2,3] [oQ 7 (.fa 4 4 (.t 1)),
 oQ 8 (.ld none (.t 7)),
 oX 9 (.call 62 [(.t 8)]),
 oQ 10 (.ext (.t 9) 0),
 oQ 11 (.ext (.t 9) 1),
 oQ 2 (.mov (.t 10)),
 oQ 3 (.mov (.t 11))])
 .ret)))
theorem c30:(Go.Proofs.Tryz.f30).body.bind (comp prog.P (1,(Go.Proofs.Tryz.f30).ntmps) aR3)=some m30:=by kernel_rfl
theorem r30:b6 prog.P (Go.Proofs.Tryz.f30).results.toList=true:=by kernel_rfl
def aQH:List (Nat×List Nat):=[(0,[1]),(1,[1,12]),(2,[2,3]),(3,[2,3])]
def m31:MC :=
 (.seq
 (.reg false [1] [oX 1 (.box (.t 0)),
 oQ 2 (.mov (kI 0)),
 oQ 3 (.mov (kB false))])
 (.seq
 (.seq
 (.reg false [1,12] [oQ 4 (.ldv 5 (.t 1)),
 oX 5 (.call 40 [(.t 4)]),
 oQ 6 (.un .not (.t 5)),
 oQ 7 (.mov (.t 6)),
 oG 8 7 false (.fa 4 4 (.t 1)),
 oG 9 7 false (.ld none (.t 8)),
 oG 10 7 false (.len false (.t 9)),
 oG 11 7 false (.bin .eql (.t 10) (kI 0)),
 oQ 12 (.pick (.t 7) (kB true) (.t 11))])
 (.cond (.t 12)
 (.seq
 (.reg false [2,3] [oQ 2 (.mov (kI 0)),
 oQ 3 (.mov (kB false))])
 .ret)
 .skip))
 (.seq
 (.reg false [2,3] [oQ 13 (.fa 4 4 (.t 1)),
 oQ 14 (.ld none (.t 13)),
 oX 15 (.call 63 [(.t 14)]),
 oQ 2 (.mov (.t 15)),
 oQ 3 (.mov (kB true))])
 .ret)))
theorem c31:(Go.Proofs.Tryz.f31).body.bind (comp prog.P (1,(Go.Proofs.Tryz.f31).ntmps) aQH)=some m31:=by kernel_rfl
theorem r31:b6 prog.P (Go.Proofs.Tryz.f31).results.toList=true:=by kernel_rfl
def aQO:List (Nat×List Nat):=[(0,[0,2]),(1,[2,4]),(2,[2,4,5]),(3,[2,4,5,19]),(4,[2,3]),(5,[2,3]),(1000004,[0,1,1,1,2,1,3,1,4,1,5,1,6,3,2,0,2,7,1,8,1,9,1,10,2,11,1,12,0,2,7,1,8,1,9,1,10,2,0,2,11,1,12,0]),(1000005,[2,4,5,1,1,3,2,0,2,2,2,3,2,4,2,5,0,2,2,3,2,0,2,3,2,4,2,5,0,2,3,2,0,2,4,2,5,0])]
def m32:MC :=
 (.seq
 (.reg false [0,2] [oX 2 (.alloc (.st (.cons (.int .i64 0) (.cons (.sl true 4 .nil) (.cons (.int .i64 0) (.cons (.int .i64 0) (.cons (.sl true 1 .nil) .nil))))))),
 oQ 3 (.mov (kI 0))])
 (.seq
 (.reg false [2,4] [oQ 6 (.mov (.t 0)),
 oX 7 (.bld (.cons (.sl true 1 .nil) (.cons (.int .i64 0) (.cons (.int .u64 0) .nil))) [(0,(.t 6))]),
 oX 8 (.box (.t 7)),
 oQ 4 (.mov (.t 8))])
 (.seq
 (.reg false [2,4,5] [oQ 9 (.mov (.t 4)),
 oX 10 (.call 35 [(.t 9)]),
 oX 5 (.alloc (.st (.cons (.int .i64 0) (.cons (.sl true 4 .nil) (.cons (.int .i64 0) (.cons (.int .i64 0) (.cons (.sl true 1 .nil) .nil))))))),
 oN (.st 5 (.t 5) (.t 10))])
 (.seq
 (.seq
 (.reg false [2,4,5,19] [oQ 11 (.fa 1 1 (.t 5)),
 oQ 12 (.ld none (.t 11)),
 oQ 13 (.len false (.t 12)),
 oQ 14 (.bin .gtr (.t 13) (kI 0)),
 oQ 15 (.mov (.t 14)),
 oG 16 15 true (.mov (.t 4)),
 oH 17 15 true (.call 51 [(.t 16),(kI 6)]),
 oG 18 15 true (.un .not (.t 17)),
 oQ 19 (.pick (.t 15) (.t 18) (kB false))])
 (.cond (.t 19)
 (.seq
 (.any [] [2,3] (.q 1 (oQ 21 (.fa 1 1 (.t 5))) (.q 2 (oQ 22 (.ld none (.t 21))) (.q 3 (oQ 23 (.mov (.t 4))) (.q 4 (oQ 24 (.fa 1 1 (.t 5))) (.q 5 (oQ 25 (.ld none (.t 24))) (.q 6 (oQ 26 (.len false (.t 25))) (.br (.e 0 (oQ 20 (.ldv 5 (.t 5))) (.e 7 (oX 27 (.call 50 [(.t 23),(.t 26)])) (.q 8 (oQ 28 (.ia 4 (.t 22) (.t 27))) (.q 9 (oQ 29 (.fa 0 0 (.t 28))) (.q 10 (oQ 30 (.ld none (.t 29))) (.e 11 (oN (.st 5 (.t 2) (.t 20))) (.q 12 (oQ 3 (.mov (.t 30))) .done)))))))
 (.e 7 (oX 27 (.call 50 [(.t 23),(.t 26)])) (.q 8 (oQ 28 (.ia 4 (.t 22) (.t 27))) (.q 9 (oQ 29 (.fa 0 0 (.t 28))) (.q 10 (oQ 30 (.ld none (.t 29))) (.e 0 (oQ 20 (.ldv 5 (.t 5))) (.e 11 (oN (.st 5 (.t 2) (.t 20))) (.q 12 (oQ 3 (.mov (.t 30))) .done)))))))))))))))
 .ret)
 .skip))
 (.seq
 (.any [4,5] [2,3] (.q 1 (oQ 32 (.mov (.t 4))) (.br (.e 0 (oQ 31 (.ldv 5 (.t 5))) (.e 2 (oX 33 (.bs 1 3 (.int .i64 0) [(0,(kI 0)),(1,(kI 1)),(2,(kI 12))])) (.e 3 (oX 34 (.call 56 [(.t 32),(.t 33)])) (.e 4 (oN (.st 5 (.t 2) (.t 31))) (.e 5 (oQ 3 (.mov (.t 34))) .done)))))
 (.e 2 (oX 33 (.bs 1 3 (.int .i64 0) [(0,(kI 0)),(1,(kI 1)),(2,(kI 12))])) (.br (.e 0 (oQ 31 (.ldv 5 (.t 5))) (.e 3 (oX 34 (.call 56 [(.t 32),(.t 33)])) (.e 4 (oN (.st 5 (.t 2) (.t 31))) (.e 5 (oQ 3 (.mov (.t 34))) .done))))
 (.e 3 (oX 34 (.call 56 [(.t 32),(.t 33)])) (.e 0 (oQ 31 (.ldv 5 (.t 5))) (.e 4 (oN (.st 5 (.t 2) (.t 31))) (.e 5 (oQ 3 (.mov (.t 34))) .done)))))))))
 .ret)))))
theorem c32:(Go.Proofs.Tryz.f32).body.bind (comp prog.P (1,(Go.Proofs.Tryz.f32).ntmps) aQO)=some m32:=by kernel_rfl
theorem r32:b6 prog.P (Go.Proofs.Tryz.f32).results.toList=true:=by kernel_rfl
def aQT:List (Nat×List Nat):=[(0,[1,2]),(1,[2,6]),(2,[2,6,16]),(3,[4,5]),(4,[4,5])]
def m33:MC :=
 (.seq
 (.reg false [1,2] [oX 2 (.box (.t 0)),
 oQ 4 (.mov (.k (.d (.str [])))),
 oQ 5 (.mov (kB false))])
 (.seq
 (.reg false [2,6] [oQ 7 (.ldv 5 (.t 2)),
 oQ 8 (.mov (.t 1)),
 oX 9 (.call 64 [(.t 7),(.t 8)]),
 oQ 6 (.mov (.t 9))])
 (.seq
 (.seq
 (.reg false [2,6,16] [oQ 10 (.ldv 5 (.t 2)),
 oX 11 (.call 10 [(.t 10)]),
 oQ 12 (.un .not (.t 11)),
 oQ 13 (.mov (.t 12)),
 oG 14 13 false (.mov (.t 6)),
 oG 15 13 false (.bin .lss (.t 14) (kI 0)),
 oQ 16 (.pick (.t 13) (kB true) (.t 15))])
 (.cond (.t 16)
 (.seq
 (.reg false [4,5] [oQ 4 (.mov (.k (.d (.str [])))),
 oQ 5 (.mov (kB false))])
 .ret)
 .skip))
 (.seq
 (.reg false [4,5] [oQ 17 (.fa 1 1 (.t 2)),
 oQ 18 (.ld none (.t 17)),
 oQ 19 (.mov (.t 6)),
 oQ 20 (.ia 4 (.t 18) (.t 19)),
 oQ 21 (.ld (some 4) (.t 20)),
 oX 22 (.call 65 [(.t 21)]),
 oQ 4 (.mov (.t 22)),
 oQ 5 (.mov (kB true))])
 .ret))))
theorem c33:(Go.Proofs.Tryz.f33).body.bind (comp prog.P (2,(Go.Proofs.Tryz.f33).ntmps) aQT)=some m33:=by kernel_rfl
theorem r33:b6 prog.P (Go.Proofs.Tryz.f33).results.toList=true:=by kernel_rfl
def aSq:List (Nat×List Nat):=[(0,[1,2]),(1,[2,6]),(2,[2,6,16]),(3,[4,5]),(4,[4,5])]
def m34:MC :=
 (.seq
 (.reg false [1,2] [oX 2 (.box (.t 0)),
 oQ 4 (.mov (.k (.d (.str [])))),
 oQ 5 (.mov (kB false))])
 (.seq
 (.reg false [2,6] [oQ 7 (.ldv 5 (.t 2)),
 oQ 8 (.mov (.t 1)),
 oX 9 (.call 66 [(.t 7),(.t 8)]),
 oQ 6 (.mov (.t 9))])
 (.seq
 (.seq
 (.reg false [2,6,16] [oQ 10 (.ldv 5 (.t 2)),
 oX 11 (.call 40 [(.t 10)]),
 oQ 12 (.un .not (.t 11)),
 oQ 13 (.mov (.t 12)),
 oG 14 13 false (.mov (.t 6)),
 oG 15 13 false (.bin .lss (.t 14) (kI 0)),
 oQ 16 (.pick (.t 13) (kB true) (.t 15))])
 (.cond (.t 16)
 (.seq
 (.reg false [4,5] [oQ 4 (.mov (.k (.d (.str [])))),
 oQ 5 (.mov (kB false))])
 .ret)
 .skip))
 (.seq
 (.reg false [4,5] [oQ 17 (.fa 1 1 (.t 2)),
 oQ 18 (.ld none (.t 17)),
 oQ 19 (.mov (.t 6)),
 oQ 20 (.ia 4 (.t 18) (.t 19)),
 oQ 21 (.ld (some 4) (.t 20)),
 oX 22 (.call 67 [(.t 21)]),
 oQ 4 (.mov (.t 22)),
 oQ 5 (.mov (kB true))])
 .ret))))
theorem c34:(Go.Proofs.Tryz.f34).body.bind (comp prog.P (2,(Go.Proofs.Tryz.f34).ntmps) aSq)=some m34:=by kernel_rfl
theorem r34:b6 prog.P (Go.Proofs.Tryz.f34).results.toList=true:=by kernel_rfl
end Go.Pe.Tryz
