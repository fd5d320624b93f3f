/-
The compact code of the functions that the law reaches,printed by gen.py,each with the proof that the machine's code is compiled to it.
-/
import Derived.Test.YtmkmjcgkcpmmpaaGreatDoorPeC
import Derived.Lib.ItoaNum
import Derived.Lib.LaidTab
import Derived.Test.YtmkmjcgkcpmmpaaGreatDoorProg
import Derived.KernelRfl
set_option maxRecDepth 100000
namespace Go.Pe.Tryz
open Go.Pe
theorem aEk {P:Program} {n:String} {k:IntKind} {zs:List Int} {g:Nat} (hg:P.globalNamed n=some g) (w w':World) (_:w.heap.size<=w'.heap.size) (hk:∀ b,b < w.heap.size->w'.heap[b]?=w.heap[b]?) (h:Go.Lib.TabIs P w n k zs):Go.Lib.TabIs P w' n k zs:=by
 unfold Go.Lib.TabIs World.var? at h ⊢
 rw [hg] at h ⊢
 simp only [Option.bind_some] at h ⊢
 by_cases hb:g < w.heap.size
 ·rw [hk g hb]; exact h
 ·rw [Array.getElem?_eq_none (by omega)] at h
  simp at h
theorem aD2 (g:Nat) (w w':World) (hk:∀ b,b < w.heap.size->w'.heap[b]?=w.heap[b]?) (h:∃ m,w.cell? ⟨g,0,none⟩=some (.int .i64 m)):∃ m,w'.cell? ⟨g,0,none⟩=some (.int .i64 m):=by
 obtain ⟨m,h⟩:=h
 by_cases hb:g < w.heap.size
 ·refine ⟨m,?_⟩
  unfold World.cell? at h ⊢
  rw [hk g hb]; exact h
 ·have hn:w.heap[g]?=none:=Array.getElem?_eq_none (by omega)
  simp [World.cell?,hn] at h
noncomputable def prog : PG := ⟨Go.Proofs.Tryz.prog, fun w => (Go.Lib.TabIs Go.Proofs.Tryz.prog w "internal/strconv.uint64pow10" .u64 Go.Lib.pow10Tab) /\ (∃ m, w.cell? ⟨3, 0, none⟩ = some (.int .i64 m)), fun w w' hs hk h => ⟨aEk (show Go.Proofs.Tryz.prog.globalNamed "internal/strconv.uint64pow10" = some 2 by kernel_rfl) w w' hs hk h.1, aD2 3 w w' hk h.2⟩⟩
theorem aK9 {w : World} (h : prog.F w) : Go.Lib.TabIs Go.Proofs.Tryz.prog w "internal/strconv.uint64pow10" .u64 Go.Lib.pow10Tab := h.1
theorem aOX {w:World} (h:prog.F w):∃ m,w.cell? ⟨3,0,none⟩=some (.int .i64 m):=h.2
theorem aP:bX prog.P 27=some 5:=by kernel_rfl
theorem dJ:bX prog.P 29=some 4:=by kernel_rfl
def lv3:List (Nat×List Nat):=[(0,[0]),(1,[0,34]),(2,[2]),(3,[0,3,4]),(4,[0,3,4,5,6]),(5,[0,3,4,5,6,7,8]),(6,[0,3,4,5,6,75]),(7,[2]),(8,[0,3,4,5,6,81]),(9,[0,3,4,5,6,9,10]),(10,[0,3,4,5,6,9,10,11,12]),(11,[0,3,4,5,6,9,10,11,12,13]),(12,[0,3,4,5,6,9,10,11,12,13,14]),(13,[0,3,4,5,6,141]),(14,[2]),(15,[0,156]),(16,[2]),(17,[0,15,16]),(18,[0,15,16,17,18,19]),(19,[0,15,16,17,18,19,20,21,22]),(20,[0,15,16,17,18,19,189]),(21,[2]),(22,[0,15,16,17,18,190]),(23,[0,16,17,18,23,24]),(24,[0,16,17,18,23,24,25]),(25,[0,16,17,18,23,24,25,195]),(26,[0,16,17,18,23,24,25]),(27,[0,16,17,18,23,24,25,26,27]),(28,[0,16,17,18,23,24,25,26,207]),(29,[0,16,17,18,23,24,25]),(30,[0,16,17,18,23,24,25]),(31,[0,219]),(32,[2]),(33,[28]),(34,[28,29,30]),(35,[29,30,31,32]),(36,[2]),(1000027,[2,10,11,1,1,1,2,1,3,1,4,3,2,0,3,2,5,1,6,1,7,1,8,2,9,2,10,2,11,0,2,9,2,5,1,6,1,7,1,8,2,10,2,11,0,2,9,2,0,2,5,1,6,1,7,1,8,2,10,2,11,0])]
def m3:MC :=
 (.seq
 (.reg false [0] [oQ 2 (.mov (kB false))])
 (.seq
 (.seq
 (.reg false [0,34] [oQ 33 (.mov (.t 0)),
 oX 34 (.call 5 [(.t 33)])])
 (.cond (.t 34)
 (.seq
 (.reg false [2] [oQ 2 (.mov (kB true))])
 .ret)
 .skip))
 (.seq
 (.reg false [0,3,4] [oQ 36 (.mov (.t 0)),
 oX 37 (.call 6 [(.t 36)]),
 oQ 35 (.mov (.t 37)),
 oQ 38 (.ext (.t 35) 0),
 oQ 39 (.ext (.t 35) 1),
 oX 3 (.alloc (.st (.cons (.int .i64 0) (.cons (.sl true 4 .nil) (.cons (.int .i64 0) (.cons (.int .i64 0) (.cons (.sl true 1 .nil) .nil))))))),
 oX 4 (.alloc (.st (.cons (.int .i64 0) (.cons (.int .i64 0) (.cons (.int .i64 0) (.cons (.int .i64 0) .nil)))))),
 oN (.st 5 (.t 3) (.t 38)),
 oN (.st 4 (.t 4) (.t 39))])
 (.seq
 (.reg false [0,3,4,5,6] [oQ 41 (.ldv 5 (.t 3)),
 oQ 42 (.ld (some 4) (.t 4)),
 oX 43 (.call 7 [(.t 41),(.t 42)]),
 oQ 40 (.mov (.t 43)),
 oQ 44 (.ext (.t 40) 0),
 oQ 45 (.ext (.t 40) 1),
 oX 5 (.alloc (.st (.cons (.int .i64 0) (.cons (.sl true 4 .nil) (.cons (.int .i64 0) (.cons (.int .i64 0) (.cons (.sl true 1 .nil) .nil))))))),
 oN (.st 5 (.t 5) (.t 44)),
 oQ 6 (.mov (.t 45))])
 (.seq
 (.seq
 (.reg false [0,3,4,5,6,7,8] [oQ 47 (.ldv 5 (.t 3)),
 oQ 48 (.ld (some 4) (.t 4)),
 oX 49 (.call 8 [(.t 47),(.t 48)]),
 oQ 46 (.mov (.t 49)),
 oQ 50 (.ext (.t 46) 0),
 oQ 51 (.ext (.t 46) 1),
 oX 7 (.alloc (.st (.cons (.int .i64 0) (.cons (.sl true 4 .nil) (.cons (.int .i64 0) (.cons (.int .i64 0) (.cons (.sl true 1 .nil) .nil))))))),
 oN (.st 5 (.t 7) (.t 50)),
 oQ 8 (.mov (.t 51))])
 (.seq
 (.reg true [0,3,4,5,6,75] [oQ 52 (.mov (.t 6)),
 oQ 53 (.mov (.t 8)),
 oQ 54 (.bb .neq (.t 52) (.t 53)),
 oQ 55 (.mov (.t 54)),
 oG 56 55 false (.ldv 5 (.t 5)),
 oG 57 55 false (.ldv 5 (.t 7)),
 oG 58 55 false (.callP 9 [(.t 56),(.t 57)]),
 oG 59 55 false (.un .not (.t 58)),
 oQ 60 (.pick (.t 55) (kB true) (.t 59)),
 oQ 61 (.mov (.t 60)),
 oG 62 61 false (.ldv 5 (.t 3)),
 oG 63 61 false (.callP 10 [(.t 62)]),
 oG 64 61 false (.ldv 5 (.t 3)),
 oG 65 61 false (.callP 11 [(.t 64)]),
 oG 66 61 false (.bb .neq (.t 63) (.t 65)),
 oQ 67 (.pick (.t 61) (kB true) (.t 66)),
 oQ 68 (.mov (.t 67)),
 oG 69 68 false (.mov (.t 6)),
 oG 70 68 false (.mov (.t 69)),
 oG 71 70 true (.ldv 5 (.t 5)),
 oG 72 70 true (.callP 10 [(.t 71)]),
 oG 73 70 true (.un .not (.t 72)),
 oG 74 68 false (.pick (.t 70) (.t 73) (kB false)),
 oQ 75 (.pick (.t 68) (kB true) (.t 74))])
 (.cond (.t 75)
 (.seq
 (.reg false [2] [oQ 2 (.mov (kB false))])
 .ret)
 .skip)))
 (.seq
 (.seq
 (.reg false [0,3,4,5,6,81] [oQ 76 (.mov (.t 6)),
 oQ 77 (.mov (.t 76)),
 oG 78 77 true (.fa 0 0 (.t 4)),
 oG 79 77 true (.ld none (.t 78)),
 oG 80 77 true (.bin .eql (.t 79) (kI 6)),
 oQ 81 (.pick (.t 77) (.t 80) (kB false))])
 (.cond (.t 81)
 (.seq
 (.reg false [0,3,4,5,6,9,10] [oQ 83 (.ldv 5 (.t 3)),
 oX 84 (.call 12 [(.t 83)]),
 oQ 82 (.mov (.t 84)),
 oQ 85 (.ext (.t 82) 0),
 oQ 86 (.ext (.t 82) 1),
 oQ 9 (.mov (.t 85)),
 oQ 10 (.mov (.t 86))])
 (.seq
 (.reg false [0,3,4,5,6,9,10,11,12] [oQ 88 (.ldv 5 (.t 3)),
 oX 89 (.call 13 [(.t 88)]),
 oQ 87 (.mov (.t 89)),
 oQ 90 (.ext (.t 87) 0),
 oQ 91 (.ext (.t 87) 1),
 oQ 11 (.mov (.t 90)),
 oQ 12 (.mov (.t 91))])
 (.seq
 (.reg false [0,3,4,5,6,9,10,11,12,13] [oQ 92 (.fa 1 1 (.t 5)),
 oQ 93 (.ld none (.t 92)),
 oQ 94 (.len false (.t 93)),
 oQ 95 (.fa 2 2 (.t 5)),
 oQ 96 (.ld none (.t 95)),
 oQ 97 (.bin .add (.t 94) (.t 96)),
 oQ 98 (.fa 3 3 (.t 5)),
 oQ 99 (.ld none (.t 98)),
 oQ 100 (.bin .add (.t 97) (.t 99)),
 oQ 101 (.fa 4 4 (.t 5)),
 oQ 102 (.ld none (.t 101)),
 oQ 103 (.len false (.t 102)),
 oQ 104 (.bin .add (.t 100) (.t 103)),
 oQ 13 (.mov (.t 104))])
 (.seq
 (.reg false [0,3,4,5,6,9,10,11,12,13,14] [oQ 105 (.fa 1 1 (.t 3)),
 oQ 106 (.ld none (.t 105)),
 oQ 107 (.len false (.t 106)),
 oQ 108 (.fa 2 2 (.t 3)),
 oQ 109 (.ld none (.t 108)),
 oQ 110 (.bin .add (.t 107) (.t 109)),
 oQ 111 (.fa 3 3 (.t 3)),
 oQ 112 (.ld none (.t 111)),
 oQ 113 (.bin .add (.t 110) (.t 112)),
 oQ 114 (.fa 4 4 (.t 3)),
 oQ 115 (.ld none (.t 114)),
 oQ 116 (.len false (.t 115)),
 oQ 117 (.bin .add (.t 113) (.t 116)),
 oQ 14 (.mov (.t 117))])
 (.seq
 (.reg false [0,3,4,5,6,141] [oQ 118 (.mov (.t 10)),
 oQ 119 (.un .not (.t 118)),
 oQ 120 (.mov (.t 119)),
 oG 121 120 false (.mov (.t 9)),
 oG 122 120 false (.fa 1 1 (.t 4)),
 oG 123 120 false (.ld none (.t 122)),
 oH 124 120 false (.call 14 [(.t 121),(.t 123)]),
 oG 125 120 false (.un .not (.t 124)),
 oQ 126 (.pick (.t 120) (kB true) (.t 125)),
 oQ 127 (.mov (.t 126)),
 oG 128 127 false (.mov (.t 12)),
 oG 129 127 false (.un .not (.t 128)),
 oQ 130 (.pick (.t 127) (kB true) (.t 129)),
 oQ 131 (.mov (.t 130)),
 oG 132 131 false (.mov (.t 11)),
 oG 133 131 false (.fa 1 1 (.t 4)),
 oG 134 131 false (.ld none (.t 133)),
 oH 135 131 false (.call 14 [(.t 132),(.t 134)]),
 oQ 136 (.pick (.t 131) (kB true) (.t 135)),
 oQ 137 (.mov (.t 136)),
 oG 138 137 false (.mov (.t 13)),
 oG 139 137 false (.mov (.t 14)),
 oG 140 137 false (.bin .neq (.t 138) (.t 139)),
 oQ 141 (.pick (.t 137) (kB true) (.t 140))])
 (.cond (.t 141)
 (.seq
 (.reg false [2] [oQ 2 (.mov (kB false))])
 .ret)
 .skip))))))
 .skip))
 (.seq
 (.seq
 (.reg false [0,156] [oQ 142 (.mov (.t 6)),
 oQ 143 (.mov (.t 142)),
 oG 144 143 true (.fa 0 0 (.t 4)),
 oG 145 143 true (.ld none (.t 144)),
 oG 146 143 true (.bin .neq (.t 145) (kI 6)),
 oQ 147 (.pick (.t 143) (.t 146) (kB false)),
 oQ 148 (.mov (.t 147)),
 oG 149 148 true (.fa 4 4 (.t 5)),
 oG 150 148 true (.ld none (.t 149)),
 oG 151 148 true (.len false (.t 150)),
 oG 152 148 true (.fa 4 4 (.t 3)),
 oG 153 148 true (.ld none (.t 152)),
 oG 154 148 true (.len false (.t 153)),
 oG 155 148 true (.bin .neq (.t 151) (.t 154)),
 oQ 156 (.pick (.t 148) (.t 155) (kB false))])
 (.cond (.t 156)
 (.seq
 (.reg false [2] [oQ 2 (.mov (kB false))])
 .ret)
 .skip))
 (.seq
 (.reg false [0,15,16] [oQ 158 (.mov (.t 0)),
 oX 159 (.call 15 [(.t 158)]),
 oQ 157 (.mov (.t 159)),
 oQ 160 (.ext (.t 157) 0),
 oQ 161 (.ext (.t 157) 1),
 oX 15 (.alloc (.st (.cons (.int .i64 0) (.cons (.sl true 4 .nil) (.cons (.int .i64 0) (.cons (.int .i64 0) (.cons (.sl true 1 .nil) .nil))))))),
 oN (.st 5 (.t 15) (.t 160)),
 oQ 16 (.mov (.t 161))])
 (.seq
 (.reg false [0,15,16,17,18,19] [oQ 163 (.ldv 5 (.t 15)),
 oQ 164 (.mov (.t 16)),
 oX 165 (.call 16 [(.t 163),(.t 164)]),
 oQ 162 (.mov (.t 165)),
 oQ 166 (.ext (.t 162) 0),
 oQ 167 (.ext (.t 162) 1),
 oQ 168 (.ext (.t 162) 2),
 oX 17 (.alloc (.st (.cons (.int .i64 0) (.cons (.sl true 4 .nil) (.cons (.int .i64 0) (.cons (.int .i64 0) (.cons (.sl true 1 .nil) .nil))))))),
 oN (.st 5 (.t 17) (.t 166)),
 oQ 18 (.mov (.t 167)),
 oQ 19 (.mov (.t 168))])
 (.seq
 (.seq
 (.reg false [0,15,16,17,18,19,20,21,22] [oQ 170 (.ldv 5 (.t 15)),
 oQ 171 (.mov (.t 16)),
 oX 172 (.call 17 [(.t 170),(.t 171)]),
 oQ 169 (.mov (.t 172)),
 oQ 173 (.ext (.t 169) 0),
 oQ 174 (.ext (.t 169) 1),
 oQ 175 (.ext (.t 169) 2),
 oX 20 (.alloc (.st (.cons (.int .i64 0) (.cons (.sl true 4 .nil) (.cons (.int .i64 0) (.cons (.int .i64 0) (.cons (.sl true 1 .nil) .nil))))))),
 oN (.st 5 (.t 20) (.t 173)),
 oQ 21 (.mov (.t 174)),
 oQ 22 (.mov (.t 175))])
 (.seq
 (.reg false [0,15,16,17,18,19,189] [oQ 176 (.mov (.t 19)),
 oQ 177 (.mov (.t 22)),
 oQ 178 (.bb .neq (.t 176) (.t 177)),
 oQ 179 (.mov (.t 178)),
 oG 180 179 false (.mov (.t 18)),
 oG 181 179 false (.mov (.t 21)),
 oG 182 179 false (.bin .neq (.t 180) (.t 181)),
 oQ 183 (.pick (.t 179) (kB true) (.t 182)),
 oQ 184 (.mov (.t 183)),
 oG 185 184 false (.ldv 5 (.t 17)),
 oG 186 184 false (.ldv 5 (.t 20)),
 oH 187 184 false (.call 9 [(.t 185),(.t 186)]),
 oG 188 184 false (.un .not (.t 187)),
 oQ 189 (.pick (.t 184) (kB true) (.t 188))])
 (.cond (.t 189)
 (.seq
 (.reg false [2] [oQ 2 (.mov (kB false))])
 .ret)
 .skip)))
 (.seq
 (.seq
 (.reg false [0,15,16,17,18,190] [oQ 190 (.mov (.t 19))])
 (.cond (.t 190)
 (.seq
 (.reg false [0,16,17,18,23,24] [oQ 191 (.ldv 5 (.t 15)),
 oX 23 (.alloc (.st (.cons (.int .i64 0) (.cons (.sl true 4 .nil) (.cons (.int .i64 0) (.cons (.int .i64 0) (.cons (.sl true 1 .nil) .nil))))))),
 oN (.st 5 (.t 23) (.t 191)),
 oQ 24 (.mov (kI 0))])
 (.seq
 (.seq
 (.reg false [0,16,17,18,23,24,25] [oQ 25 (.mov (kI 0))])
 (.block 0
 (.loop
 (.seq
 (.seq
 (.reg false [0,16,17,18,23,24,25,195] [oQ 192 (.mov (.t 25)),
 oQ 193 (.mov (.t 16)),
 oQ 194 (.len false (.t 193)),
 oQ 195 (.bin .lss (.t 192) (.t 194))])
 (.cond (.t 195)
 .skip
 (.exit 0)))
 (.seq
 (.block 1
 (.seq
 (.any [10,11] [0,16,17,18,23,24,25,26,27] (.q 1 (oQ 200 (.mov (.t 16))) (.q 2 (oQ 201 (.mov (.t 25))) (.q 3 (oQ 202 (.ia 4 (.t 200) (.t 201))) (.q 4 (oQ 203 (.ld (some 4) (.t 202))) (.br (.e 0 (oQ 199 (.ldv 5 (.t 23))) (.br (.e 5 (oX 204 (.call 7 [(.t 199),(.t 203)])) (.q 6 (oQ 198 (.mov (.t 204))) (.q 7 (oQ 205 (.ext (.t 198) 0)) (.q 8 (oQ 206 (.ext (.t 198) 1)) (.e 9 (oX 26 (.alloc (.st (.cons (.int .i64 0) (.cons (.sl true 4 .nil) (.cons (.int .i64 0) (.cons (.int .i64 0) (.cons (.sl true 1 .nil) .nil)))))))) (.e 10 (oN (.st 5 (.t 26) (.t 205))) (.e 11 (oQ 27 (.mov (.t 206))) .done)))))))
 (.e 9 (oX 26 (.alloc (.st (.cons (.int .i64 0) (.cons (.sl true 4 .nil) (.cons (.int .i64 0) (.cons (.int .i64 0) (.cons (.sl true 1 .nil) .nil)))))))) (.e 5 (oX 204 (.call 7 [(.t 199),(.t 203)])) (.q 6 (oQ 198 (.mov (.t 204))) (.q 7 (oQ 205 (.ext (.t 198) 0)) (.q 8 (oQ 206 (.ext (.t 198) 1)) (.e 10 (oN (.st 5 (.t 26) (.t 205))) (.e 11 (oQ 27 (.mov (.t 206))) .done)))))))))
 (.e 9 (oX 26 (.alloc (.st (.cons (.int .i64 0) (.cons (.sl true 4 .nil) (.cons (.int .i64 0) (.cons (.int .i64 0) (.cons (.sl true 1 .nil) .nil)))))))) (.e 0 (oQ 199 (.ldv 5 (.t 23))) (.e 5 (oX 204 (.call 7 [(.t 199),(.t 203)])) (.q 6 (oQ 198 (.mov (.t 204))) (.q 7 (oQ 205 (.ext (.t 198) 0)) (.q 8 (oQ 206 (.ext (.t 198) 1)) (.e 10 (oN (.st 5 (.t 26) (.t 205))) (.e 11 (oQ 27 (.mov (.t 206))) .done))))))))))))))
 (.seq
 (.reg false [0,16,17,18,23,24,25,26,207] [oQ 207 (.mov (.t 27))])
 (.cond (.t 207)
 (.seq
 (.reg false [0,16,17,18,23,24,25] [oQ 208 (.ldv 5 (.t 26)),
 oN (.st 5 (.t 23) (.t 208))])
 (.reg false [0,16,17,18,23,24,25] [oQ 209 (.mov (.t 24)),
 oQ 210 (.bin .add (.t 209) (kI 1)),
 oQ 24 (.mov (.t 210))]))
 .skip))))
 (.reg false [0,16,17,18,23,24,25] [oQ 196 (.mov (.t 25)),
 oQ 197 (.bin .add (.t 196) (kI 1)),
 oQ 25 (.mov (.t 197))]))))))
 (.seq
 (.reg false [0,219] [oQ 211 (.mov (.t 24)),
 oQ 212 (.mov (.t 18)),
 oQ 213 (.bin .neq (.t 211) (.t 212)),
 oQ 214 (.mov (.t 213)),
 oG 215 214 false (.ldv 5 (.t 23)),
 oG 216 214 false (.ldv 5 (.t 17)),
 oH 217 214 false (.call 9 [(.t 215),(.t 216)]),
 oG 218 214 false (.un .not (.t 217)),
 oQ 219 (.pick (.t 214) (kB true) (.t 218))])
 (.cond (.t 219)
 (.seq
 (.reg false [2] [oQ 2 (.mov (kB false))])
 .ret)
 .skip))))
 .skip))
 (.seq
 (.reg false [28] [oQ 220 (.mov (.t 0)),
 oX 221 (.call 18 [(.t 220)]),
 oQ 28 (.mov (.t 221))])
 (.seq
 (.reg false [28,29,30] [oQ 223 (.mov (.t 28)),
 oX 224 (.call 19 [(.t 223)]),
 oQ 222 (.mov (.t 224)),
 oQ 225 (.ext (.t 222) 0),
 oQ 226 (.ext (.t 222) 1),
 oX 29 (.alloc (.st (.cons (.int .i64 0) (.cons (.sl true 4 .nil) (.cons (.int .i64 0) (.cons (.int .i64 0) (.cons (.sl true 1 .nil) .nil))))))),
 oN (.st 5 (.t 29) (.t 225)),
 oQ 30 (.mov (.t 226))])
 (.seq
 (.reg false [29,30,31,32] [oQ 228 (.mov (.t 28)),
 oX 229 (.call 20 [(.t 228)]),
 oQ 227 (.mov (.t 229)),
 oQ 230 (.ext (.t 227) 0),
 oQ 231 (.ext (.t 227) 1),
 oX 31 (.alloc (.st (.cons (.int .i64 0) (.cons (.sl true 4 .nil) (.cons (.int .i64 0) (.cons (.int .i64 0) (.cons (.sl true 1 .nil) .nil))))))),
 oN (.st 5 (.t 31) (.t 230)),
 oQ 32 (.mov (.t 231))])
 (.seq
 (.reg false [2] [oQ 232 (.mov (.t 30)),
 oQ 233 (.mov (.t 32)),
 oQ 234 (.bb .eql (.t 232) (.t 233)),
 oQ 235 (.mov (.t 234)),
 oG 236 235 true (.ldv 5 (.t 29)),
 oG 237 235 true (.ldv 5 (.t 31)),
 oH 238 235 true (.call 9 [(.t 236),(.t 237)]),
 oQ 239 (.pick (.t 235) (.t 238) (kB false)),
 oQ 2 (.mov (.t 239))])
 .ret)))))))))))))))
theorem c3:(Go.Proofs.Tryz.f3).body.bind (comp prog.P (1,(Go.Proofs.Tryz.f3).ntmps) lv3)=some m3:=by kernel_rfl
theorem r3:bA prog.P (Go.Proofs.Tryz.f3).results.toList=true:=by kernel_rfl
def lv5:List (Nat×List Nat):=[(0,[0]),(1,[2])]
def m5:MC :=
 (.seq
 (.reg false [0] [oQ 2 (.mov (kB false))])
 (.seq
 (.reg false [2] [oQ 3 (.mov (.t 0)),
 oQ 4 (.len false (.t 3)),
 oQ 5 (.bin .gtr (.t 4) (kI 65536)),
 oQ 2 (.mov (.t 5))])
 .ret))
theorem c5:(Go.Proofs.Tryz.f5).body.bind (comp prog.P (1,(Go.Proofs.Tryz.f5).ntmps) lv5)=some m5:=by kernel_rfl
theorem r5:bA prog.P (Go.Proofs.Tryz.f5).results.toList=true:=by kernel_rfl
def lv6:List (Nat×List Nat):=[(0,[0,2,3]),(1,[2,3,4]),(2,[2,3,4,5]),(3,[2,3]),(1000003,[2,4,5,1,1,3,2,0,2,2,2,3,2,4,2,5,0,2,2,3,2,0,2,3,2,4,2,5,0,2,3,2,0,2,4,2,5,0])]
def m6:MC :=
 (.seq
 (.reg false [0,2,3] [oX 2 (.alloc (.st (.cons (.int .i64 0) (.cons (.sl true 4 .nil) (.cons (.int .i64 0) (.cons (.int .i64 0) (.cons (.sl true 1 .nil) .nil))))))),
 oX 3 (.alloc (.st (.cons (.int .i64 0) (.cons (.int .i64 0) (.cons (.int .i64 0) (.cons (.int .i64 0) .nil))))))])
 (.seq
 (.reg false [2,3,4] [oQ 6 (.mov (.t 0)),
 oX 7 (.bld (.cons (.sl true 1 .nil) (.cons (.int .i64 0) (.cons (.int .u64 0) .nil))) [(0,(.t 6))]),
 oX 8 (.box (.t 7)),
 oQ 4 (.mov (.t 8))])
 (.seq
 (.reg false [2,3,4,5] [oQ 9 (.mov (.t 4)),
 oX 10 (.call 35 [(.t 9)]),
 oX 5 (.alloc (.st (.cons (.int .i64 0) (.cons (.sl true 4 .nil) (.cons (.int .i64 0) (.cons (.int .i64 0) (.cons (.sl true 1 .nil) .nil))))))),
 oN (.st 5 (.t 5) (.t 10))])
 (.seq
 (.any [4,5] [2,3] (.q 1 (oQ 12 (.mov (.t 4))) (.br (.e 0 (oQ 11 (.ldv 5 (.t 5))) (.e 2 (oQ 13 (.ldv 5 (.t 5))) (.e 3 (oX 14 (.call 36 [(.t 12),(.t 13)])) (.e 4 (oN (.st 5 (.t 2) (.t 11))) (.e 5 (oN (.st 4 (.t 3) (.t 14))) .done)))))
 (.e 2 (oQ 13 (.ldv 5 (.t 5))) (.br (.e 0 (oQ 11 (.ldv 5 (.t 5))) (.e 3 (oX 14 (.call 36 [(.t 12),(.t 13)])) (.e 4 (oN (.st 5 (.t 2) (.t 11))) (.e 5 (oN (.st 4 (.t 3) (.t 14))) .done))))
 (.e 3 (oX 14 (.call 36 [(.t 12),(.t 13)])) (.e 0 (oQ 11 (.ldv 5 (.t 5))) (.e 4 (oN (.st 5 (.t 2) (.t 11))) (.e 5 (oN (.st 4 (.t 3) (.t 14))) .done)))))))))
 .ret))))
theorem c6:(Go.Proofs.Tryz.f6).body.bind (comp prog.P (1,(Go.Proofs.Tryz.f6).ntmps) lv6)=some m6:=by kernel_rfl
theorem r6:bA prog.P (Go.Proofs.Tryz.f6).results.toList=true:=by kernel_rfl
def lv7:List (Nat×List Nat):=[(0,[2,3,4]),(1,[2,3,4,15]),(2,[4,5]),(3,[3,4,6]),(4,[4,6,26]),(5,[4,5]),(6,[4,5])]
def m7:MC :=
 (.seq
 (.reg false [2,3,4] [oX 2 (.box (.t 0)),
 oX 3 (.box (.t 1)),
 oX 4 (.alloc (.st (.cons (.int .i64 0) (.cons (.sl true 4 .nil) (.cons (.int .i64 0) (.cons (.int .i64 0) (.cons (.sl true 1 .nil) .nil))))))),
 oQ 5 (.mov (kB false))])
 (.seq
 (.seq
 (.reg false [2,3,4,15] [oQ 7 (.ldv 5 (.t 2)),
 oX 8 (.call 10 [(.t 7)]),
 oQ 9 (.un .not (.t 8)),
 oQ 10 (.mov (.t 9)),
 oG 11 10 false (.fa 3 3 (.t 3)),
 oG 12 10 false (.ld none (.t 11)),
 oH 13 10 false (.call 37 [(.t 12),(kI 0),(kI 20000)]),
 oG 14 10 false (.un .not (.t 13)),
 oQ 15 (.pick (.t 10) (kB true) (.t 14))])
 (.cond (.t 15)
 (.seq
 (.reg false [4,5] [oX 16 (.bld (.cons (.int .i64 0) (.cons (.sl true 4 .nil) (.cons (.int .i64 0) (.cons (.int .i64 0) (.cons (.sl true 1 .nil) .nil))))) []),
 oN (.st 5 (.t 4) (.t 16)),
 oQ 5 (.mov (kB false))])
 .ret)
 .skip))
 (.seq
 (.reg false [3,4,6] [oQ 17 (.ldv 5 (.t 2)),
 oX 18 (.call 38 [(.t 17)]),
 oX 6 (.alloc (.st (.cons (.int .i64 0) (.cons (.sl true 4 .nil) (.cons (.int .i64 0) (.cons (.int .i64 0) (.cons (.sl true 1 .nil) .nil))))))),
 oN (.st 5 (.t 6) (.t 18))])
 (.seq
 (.seq
 (.reg false [4,6,26] [oQ 19 (.ld (some 4) (.t 3)),
 oX 20 (.call 39 [(.t 6),(.t 19)]),
 oQ 21 (.un .not (.t 20)),
 oQ 22 (.mov (.t 21)),
 oG 23 22 false (.ldv 5 (.t 6)),
 oH 24 22 false (.call 10 [(.t 23)]),
 oG 25 22 false (.un .not (.t 24)),
 oQ 26 (.pick (.t 22) (kB true) (.t 25))])
 (.cond (.t 26)
 (.seq
 (.reg false [4,5] [oX 27 (.bld (.cons (.int .i64 0) (.cons (.sl true 4 .nil) (.cons (.int .i64 0) (.cons (.int .i64 0) (.cons (.sl true 1 .nil) .nil))))) []),
 oN (.st 5 (.t 4) (.t 27)),
 oQ 5 (.mov (kB false))])
 .ret)
 .skip))
 (.seq
 (.reg false [4,5] [oQ 28 (.ldv 5 (.t 6)),
 oN (.st 5 (.t 4) (.t 28)),
 oQ 5 (.mov (kB true))])
 .ret)))))
theorem c7:(Go.Proofs.Tryz.f7).body.bind (comp prog.P (2,(Go.Proofs.Tryz.f7).ntmps) lv7)=some m7:=by kernel_rfl
theorem r7:bA prog.P (Go.Proofs.Tryz.f7).results.toList=true:=by kernel_rfl
def lv8:List (Nat×List Nat):=[(0,[2,3,4]),(1,[2,3,4,16]),(2,[4,5]),(3,[4,6,7]),(4,[4,6,25]),(5,[4,5]),(6,[4,5])]
def m8:MC :=
 (.seq
 (.reg false [2,3,4] [oX 2 (.box (.t 0)),
 oX 3 (.box (.t 1)),
 oX 4 (.alloc (.st (.cons (.int .i64 0) (.cons (.sl true 4 .nil) (.cons (.int .i64 0) (.cons (.int .i64 0) (.cons (.sl true 1 .nil) .nil))))))),
 oQ 5 (.mov (kB false))])
 (.seq
 (.seq
 (.reg false [2,3,4,16] [oQ 8 (.ldv 5 (.t 2)),
 oX 9 (.call 40 [(.t 8)]),
 oQ 10 (.un .not (.t 9)),
 oQ 11 (.mov (.t 10)),
 oG 12 11 false (.ldv 5 (.t 2)),
 oG 13 11 false (.ld (some 4) (.t 3)),
 oH 14 11 false (.call 41 [(.t 12),(.t 13)]),
 oG 15 11 false (.un .not (.t 14)),
 oQ 16 (.pick (.t 11) (kB true) (.t 15))])
 (.cond (.t 16)
 (.seq
 (.reg false [4,5] [oX 17 (.bld (.cons (.int .i64 0) (.cons (.sl true 4 .nil) (.cons (.int .i64 0) (.cons (.int .i64 0) (.cons (.sl true 1 .nil) .nil))))) []),
 oN (.st 5 (.t 4) (.t 17)),
 oQ 5 (.mov (kB false))])
 .ret)
 .skip))
 (.seq
 (.reg false [4,6,7] [oQ 19 (.ldv 5 (.t 2)),
 oQ 20 (.ld (some 4) (.t 3)),
 oX 21 (.call 42 [(.t 19),(.t 20)]),
 oQ 18 (.mov (.t 21)),
 oQ 22 (.ext (.t 18) 0),
 oQ 23 (.ext (.t 18) 1),
 oX 6 (.alloc (.st (.cons (.int .i64 0) (.cons (.sl true 4 .nil) (.cons (.int .i64 0) (.cons (.int .i64 0) (.cons (.sl true 1 .nil) .nil))))))),
 oN (.st 5 (.t 6) (.t 22)),
 oQ 7 (.mov (.t 23))])
 (.seq
 (.seq
 (.reg false [4,6,25] [oQ 24 (.mov (.t 7)),
 oQ 25 (.un .not (.t 24))])
 (.cond (.t 25)
 (.seq
 (.reg false [4,5] [oX 26 (.bld (.cons (.int .i64 0) (.cons (.sl true 4 .nil) (.cons (.int .i64 0) (.cons (.int .i64 0) (.cons (.sl true 1 .nil) .nil))))) []),
 oN (.st 5 (.t 4) (.t 26)),
 oQ 5 (.mov (kB false))])
 .ret)
 .skip))
 (.seq
 (.reg false [4,5] [oQ 27 (.ldv 5 (.t 6)),
 oN (.st 5 (.t 4) (.t 27)),
 oQ 5 (.mov (kB true))])
 .ret)))))
theorem c8:(Go.Proofs.Tryz.f8).body.bind (comp prog.P (2,(Go.Proofs.Tryz.f8).ntmps) lv8)=some m8:=by kernel_rfl
theorem r8:bA prog.P (Go.Proofs.Tryz.f8).results.toList=true:=by kernel_rfl
def lv9:List (Nat×List Nat):=[(0,[2,3]),(1,[2,3,41]),(2,[4]),(3,[2,3,5]),(4,[2,3,5,46]),(5,[2,3,5]),(6,[2,3,5,107]),(7,[4]),(8,[4])]
def m9:MC :=
 (.seq
 (.reg false [2,3] [oX 2 (.box (.t 0)),
 oX 3 (.box (.t 1)),
 oQ 4 (.mov (kB false))])
 (.seq
 (.seq
 (.reg false [2,3,41] [oQ 6 (.fa 0 0 (.t 2)),
 oQ 7 (.ld none (.t 6)),
 oQ 8 (.fa 0 0 (.t 3)),
 oQ 9 (.ld none (.t 8)),
 oQ 10 (.bin .neq (.t 7) (.t 9)),
 oQ 11 (.mov (.t 10)),
 oG 12 11 false (.fa 1 1 (.t 2)),
 oG 13 11 false (.ld none (.t 12)),
 oG 14 11 false (.len false (.t 13)),
 oG 15 11 false (.fa 1 1 (.t 3)),
 oG 16 11 false (.ld none (.t 15)),
 oG 17 11 false (.len false (.t 16)),
 oG 18 11 false (.bin .neq (.t 14) (.t 17)),
 oQ 19 (.pick (.t 11) (kB true) (.t 18)),
 oQ 20 (.mov (.t 19)),
 oG 21 20 false (.fa 2 2 (.t 2)),
 oG 22 20 false (.ld none (.t 21)),
 oG 23 20 false (.fa 2 2 (.t 3)),
 oG 24 20 false (.ld none (.t 23)),
 oG 25 20 false (.bin .neq (.t 22) (.t 24)),
 oQ 26 (.pick (.t 20) (kB true) (.t 25)),
 oQ 27 (.mov (.t 26)),
 oG 28 27 false (.fa 3 3 (.t 2)),
 oG 29 27 false (.ld none (.t 28)),
 oG 30 27 false (.fa 3 3 (.t 3)),
 oG 31 27 false (.ld none (.t 30)),
 oG 32 27 false (.bin .neq (.t 29) (.t 31)),
 oQ 33 (.pick (.t 27) (kB true) (.t 32)),
 oQ 34 (.mov (.t 33)),
 oG 35 34 false (.fa 4 4 (.t 2)),
 oG 36 34 false (.ld none (.t 35)),
 oG 37 34 false (.fa 4 4 (.t 3)),
 oG 38 34 false (.ld none (.t 37)),
 oH 39 34 false (.call 43 [(.t 36),(.t 38)]),
 oG 40 34 false (.un .not (.t 39)),
 oQ 41 (.pick (.t 34) (kB true) (.t 40))])
 (.cond (.t 41)
 (.seq
 (.reg false [4] [oQ 4 (.mov (kB false))])
 .ret)
 .skip))
 (.seq
 (.seq
 (.reg false [2,3,5] [oQ 5 (.mov (kI 0))])
 (.block 0
 (.loop
 (.seq
 (.seq
 (.reg false [2,3,5,46] [oQ 42 (.mov (.t 5)),
 oQ 43 (.fa 1 1 (.t 2)),
 oQ 44 (.ld none (.t 43)),
 oQ 45 (.len false (.t 44)),
 oQ 46 (.bin .lss (.t 42) (.t 45))])
 (.cond (.t 46)
 .skip
 (.exit 0)))
 (.seq
 (.block 1
 (.seq
 (.reg true [2,3,5,107] [oQ 49 (.fa 1 1 (.t 2)),
 oQ 50 (.ld none (.t 49)),
 oQ 51 (.mov (.t 5)),
 oQ 52 (.ia 4 (.t 50) (.t 51)),
 oQ 53 (.fa 0 0 (.t 52)),
 oQ 54 (.ld none (.t 53)),
 oQ 55 (.fa 1 1 (.t 3)),
 oQ 56 (.ld none (.t 55)),
 oQ 57 (.mov (.t 5)),
 oQ 58 (.ia 4 (.t 56) (.t 57)),
 oQ 59 (.fa 0 0 (.t 58)),
 oQ 60 (.ld none (.t 59)),
 oQ 61 (.bin .neq (.t 54) (.t 60)),
 oQ 62 (.mov (.t 61)),
 oG 63 62 false (.fa 1 1 (.t 2)),
 oG 64 62 false (.ld none (.t 63)),
 oG 65 62 false (.mov (.t 5)),
 oG 66 62 false (.ia 4 (.t 64) (.t 65)),
 oG 67 62 false (.fa 1 1 (.t 66)),
 oG 68 62 false (.ld none (.t 67)),
 oG 69 62 false (.fa 1 1 (.t 3)),
 oG 70 62 false (.ld none (.t 69)),
 oG 71 62 false (.mov (.t 5)),
 oG 72 62 false (.ia 4 (.t 70) (.t 71)),
 oG 73 62 false (.fa 1 1 (.t 72)),
 oG 74 62 false (.ld none (.t 73)),
 oG 75 62 false (.bin .neq (.t 68) (.t 74)),
 oQ 76 (.pick (.t 62) (kB true) (.t 75)),
 oQ 77 (.mov (.t 76)),
 oG 78 77 false (.fa 1 1 (.t 2)),
 oG 79 77 false (.ld none (.t 78)),
 oG 80 77 false (.mov (.t 5)),
 oG 81 77 false (.ia 4 (.t 79) (.t 80)),
 oG 82 77 false (.fa 2 2 (.t 81)),
 oG 83 77 false (.ld none (.t 82)),
 oG 84 77 false (.fa 1 1 (.t 3)),
 oG 85 77 false (.ld none (.t 84)),
 oG 86 77 false (.mov (.t 5)),
 oG 87 77 false (.ia 4 (.t 85) (.t 86)),
 oG 88 77 false (.fa 2 2 (.t 87)),
 oG 89 77 false (.ld none (.t 88)),
 oG 90 77 false (.bin .neq (.t 83) (.t 89)),
 oQ 91 (.pick (.t 77) (kB true) (.t 90)),
 oQ 92 (.mov (.t 91)),
 oG 93 92 false (.fa 1 1 (.t 2)),
 oG 94 92 false (.ld none (.t 93)),
 oG 95 92 false (.mov (.t 5)),
 oG 96 92 false (.ia 4 (.t 94) (.t 95)),
 oG 97 92 false (.fa 3 3 (.t 96)),
 oG 98 92 false (.ld none (.t 97)),
 oG 99 92 false (.fa 1 1 (.t 3)),
 oG 100 92 false (.ld none (.t 99)),
 oG 101 92 false (.mov (.t 5)),
 oG 102 92 false (.ia 4 (.t 100) (.t 101)),
 oG 103 92 false (.fa 3 3 (.t 102)),
 oG 104 92 false (.ld none (.t 103)),
 oG 105 92 false (.callP 23 [(.t 98),(.t 104)]),
 oG 106 92 false (.un .not (.t 105)),
 oQ 107 (.pick (.t 92) (kB true) (.t 106))])
 (.cond (.t 107)
 (.seq
 (.reg false [4] [oQ 4 (.mov (kB false))])
 .ret)
 .skip)))
 (.reg false [2,3,5] [oQ 47 (.mov (.t 5)),
 oQ 48 (.bin .add (.t 47) (kI 1)),
 oQ 5 (.mov (.t 48))]))))))
 (.seq
 (.reg false [4] [oQ 4 (.mov (kB true))])
 .ret))))
theorem c9:(Go.Proofs.Tryz.f9).body.bind (comp prog.P (2,(Go.Proofs.Tryz.f9).ntmps) lv9)=some m9:=by kernel_rfl
theorem r9:bA prog.P (Go.Proofs.Tryz.f9).results.toList=true:=by kernel_rfl
def aNT:List (Nat×List Nat):=[(0,[1]),(1,[1,38]),(2,[2]),(3,[1,40,41,42]),(4,[1,40,41,42,43]),(5,[1,3,4,40,41,42]),(6,[1,40,41,42,65]),(7,[2]),(8,[1,40,41,42]),(9,[2])]
def m10:MC :=
 (.seq
 (.reg false [1] [oX 1 (.box (.t 0)),
 oQ 2 (.mov (kB false))])
 (.seq
 (.seq
 (.reg false [1,38] [oQ 5 (.fa 0 0 (.t 1)),
 oQ 6 (.ld none (.t 5)),
 oX 7 (.call 44 [(.t 6)]),
 oQ 8 (.un .not (.t 7)),
 oQ 9 (.mov (.t 8)),
 oG 10 9 false (.fa 1 1 (.t 1)),
 oG 11 9 false (.ld none (.t 10)),
 oG 12 9 false (.len false (.t 11)),
 oG 13 9 false (.bin .gtr (.t 12) (kI 6)),
 oQ 14 (.pick (.t 9) (kB true) (.t 13)),
 oQ 15 (.mov (.t 14)),
 oG 16 15 false (.fa 2 2 (.t 1)),
 oG 17 15 false (.ld none (.t 16)),
 oH 18 15 false (.call 37 [(.t 17),(kI 0),(kI 999)]),
 oG 19 15 false (.un .not (.t 18)),
 oQ 20 (.pick (.t 15) (kB true) (.t 19)),
 oQ 21 (.mov (.t 20)),
 oG 22 21 false (.fa 3 3 (.t 1)),
 oG 23 21 false (.ld none (.t 22)),
 oH 24 21 false (.call 37 [(.t 23),(kI 0),(kI 999)]),
 oG 25 21 false (.un .not (.t 24)),
 oQ 26 (.pick (.t 21) (kB true) (.t 25)),
 oQ 27 (.mov (.t 26)),
 oG 28 27 false (.fa 4 4 (.t 1)),
 oG 29 27 false (.ld none (.t 28)),
 oG 30 27 false (.len false (.t 29)),
 oG 31 27 false (.bin .gtr (.t 30) (kI 0)),
 oG 32 27 false (.mov (.t 31)),
 oG 33 32 true (.fa 4 4 (.t 1)),
 oG 34 32 true (.ld none (.t 33)),
 oH 35 32 true (.call 45 [(.t 34)]),
 oG 36 32 true (.un .not (.t 35)),
 oG 37 27 false (.pick (.t 32) (.t 36) (kB false)),
 oQ 38 (.pick (.t 27) (kB true) (.t 37))])
 (.cond (.t 38)
 (.seq
 (.reg false [2] [oQ 2 (.mov (kB false))])
 .ret)
 .skip))
 (.seq
 (.seq
 (.reg false [1,40,41,42] [oQ 39 (.fa 1 1 (.t 1)),
 oQ 40 (.ld none (.t 39)),
 oQ 41 (.len false (.t 40)),
 oQ 42 (.mov (kI 0))])
 (.block 0
 (.loop
 (.seq
 (.reg false [1,40,41,42,43] [oQ 43 (.bin .lss (.t 42) (.t 41))])
 (.seq
 (.cond (.t 43)
 .skip
 (.exit 0))
 (.seq
 (.block 1
 (.seq
 (.reg false [1,3,4,40,41,42] [oQ 44 (.mov (.t 42)),
 oQ 45 (.ia 4 (.t 40) (.t 42)),
 oQ 46 (.ld (some 4) (.t 45)),
 oX 4 (.alloc (.st (.cons (.int .i64 0) (.cons (.int .i64 0) (.cons (.int .i64 0) (.cons (.sl true 1 .nil) .nil)))))),
 oQ 3 (.mov (.t 44)),
 oN (.st 4 (.t 4) (.t 46))])
 (.seq
 (.reg true [1,40,41,42,65] [oQ 47 (.ld (some 4) (.t 4)),
 oQ 48 (.callP 46 [(.t 47)]),
 oQ 49 (.un .not (.t 48)),
 oQ 50 (.mov (.t 49)),
 oG 51 50 false (.mov (.t 3)),
 oG 52 50 false (.bin .gtr (.t 51) (kI 0)),
 oG 53 50 false (.mov (.t 52)),
 oG 54 53 true (.fa 1 1 (.t 1)),
 oG 55 53 true (.ld none (.t 54)),
 oG 56 53 true (.mov (.t 3)),
 oG 57 53 true (.bin .sub (.t 56) (kI 1)),
 oG 58 53 true (.ia 4 (.t 55) (.t 57)),
 oG 59 53 true (.fa 0 0 (.t 58)),
 oG 60 53 true (.ld none (.t 59)),
 oG 61 53 true (.fa 0 0 (.t 4)),
 oG 62 53 true (.ld none (.t 61)),
 oG 63 53 true (.bin .geq (.t 60) (.t 62)),
 oG 64 50 false (.pick (.t 53) (.t 63) (kB false)),
 oQ 65 (.pick (.t 50) (kB true) (.t 64))])
 (.cond (.t 65)
 (.seq
 (.reg false [2] [oQ 2 (.mov (kB false))])
 .ret)
 .skip))))
 (.reg false [1,40,41,42] [oQ 66 (.bin .add (.t 42) (kI 1)),
 oQ 42 (.mov (.t 66))])))))))
 (.seq
 (.reg false [2] [oQ 2 (.mov (kB true))])
 .ret))))
theorem c10:(Go.Proofs.Tryz.f10).body.bind (comp prog.P (1,(Go.Proofs.Tryz.f10).ntmps) aNT)=some m10:=by kernel_rfl
theorem r10:bA prog.P (Go.Proofs.Tryz.f10).results.toList=true:=by kernel_rfl
def aMI:List (Nat×List Nat):=[(0,[1]),(1,[2])]
def m11:MC :=
 (.seq
 (.reg false [1] [oX 1 (.box (.t 0)),
 oQ 2 (.mov (kB false))])
 (.seq
 (.reg false [2] [oQ 3 (.ldv 5 (.t 1)),
 oX 4 (.call 40 [(.t 3)]),
 oQ 2 (.mov (.t 4))])
 .ret))
theorem c11:(Go.Proofs.Tryz.f11).body.bind (comp prog.P (1,(Go.Proofs.Tryz.f11).ntmps) aMI)=some m11:=by kernel_rfl
theorem r11:bA prog.P (Go.Proofs.Tryz.f11).results.toList=true:=by kernel_rfl
def aMD:List (Nat×List Nat):=[(0,[1]),(1,[1,6]),(2,[2,3]),(3,[2,3])]
def m12:MC :=
 (.seq
 (.reg false [1] [oX 1 (.box (.t 0)),
 oQ 2 (.mov (.k .nil)),
 oQ 3 (.mov (kB false))])
 (.seq
 (.seq
 (.reg false [1,6] [oQ 4 (.ldv 5 (.t 1)),
 oX 5 (.call 10 [(.t 4)]),
 oQ 6 (.un .not (.t 5))])
 (.cond (.t 6)
 (.seq
 (.reg false [2,3] [oQ 2 (.mov (.k .nil)),
 oQ 3 (.mov (kB false))])
 .ret)
 .skip))
 (.seq
 (.reg false [2,3] [oQ 7 (.ldv 5 (.t 1)),
 oQ 8 (.clos 48 [(.t 1)]),
 oX 9 (.call 47 [(.t 7),(.t 8)]),
 oQ 2 (.mov (.t 9)),
 oQ 3 (.mov (kB true))])
 .ret)))
theorem c12:(Go.Proofs.Tryz.f12).body.bind (comp prog.P (1,(Go.Proofs.Tryz.f12).ntmps) aMD)=some m12:=by kernel_rfl
theorem r12:bA prog.P (Go.Proofs.Tryz.f12).results.toList=true:=by kernel_rfl
def aM9:List (Nat×List Nat):=[(0,[1]),(1,[1,6]),(2,[2,3]),(3,[2,3])]
def m13:MC :=
 (.seq
 (.reg false [1] [oX 1 (.box (.t 0)),
 oQ 2 (.mov (.k .nil)),
 oQ 3 (.mov (kB false))])
 (.seq
 (.seq
 (.reg false [1,6] [oQ 4 (.ldv 5 (.t 1)),
 oX 5 (.call 10 [(.t 4)]),
 oQ 6 (.un .not (.t 5))])
 (.cond (.t 6)
 (.seq
 (.reg false [2,3] [oQ 2 (.mov (.k .nil)),
 oQ 3 (.mov (kB false))])
 .ret)
 .skip))
 (.seq
 (.reg false [2,3] [oQ 7 (.ldv 5 (.t 1)),
 oQ 8 (.clos 49 [(.t 1)]),
 oX 9 (.call 47 [(.t 7),(.t 8)]),
 oQ 2 (.mov (.t 9)),
 oQ 3 (.mov (kB true))])
 .ret)))
theorem c13:(Go.Proofs.Tryz.f13).body.bind (comp prog.P (1,(Go.Proofs.Tryz.f13).ntmps) aM9)=some m13:=by kernel_rfl
theorem r13:bA prog.P (Go.Proofs.Tryz.f13).results.toList=true:=by kernel_rfl
def aLZ:List (Nat×List Nat):=[(0,[0,1]),(1,[0,1,5]),(2,[0,1,5,9]),(3,[0,1,5]),(4,[0,1,5,17]),(5,[4]),(6,[4])]
def m14:MC :=
 (.seq
 (.reg false [0,1] [oQ 4 (.mov (kB false))])
 (.seq
 (.seq
 (.reg false [0,1,5] [oQ 5 (.mov (kI 0))])
 (.block 0
 (.loop
 (.seq
 (.seq
 (.reg false [0,1,5,9] [oQ 6 (.mov (.t 5)),
 oQ 7 (.mov (.t 0)),
 oQ 8 (.len false (.t 7)),
 oQ 9 (.bin .lss (.t 6) (.t 8))])
 (.cond (.t 9)
 .skip
 (.exit 0)))
 (.seq
 (.block 1
 (.seq
 (.reg false [0,1,5,17] [oQ 12 (.mov (.t 0)),
 oQ 13 (.mov (.t 5)),
 oQ 14 (.ia 1 (.t 12) (.t 13)),
 oQ 15 (.ld none (.t 14)),
 oQ 16 (.mov (.t 1)),
 oQ 17 (.bin .eql (.t 15) (.t 16))])
 (.cond (.t 17)
 (.seq
 (.reg false [4] [oQ 4 (.mov (kB true))])
 .ret)
 .skip)))
 (.reg false [0,1,5] [oQ 10 (.mov (.t 5)),
 oQ 11 (.bin .add (.t 10) (kI 1)),
 oQ 5 (.mov (.t 11))]))))))
 (.seq
 (.reg false [4] [oQ 4 (.mov (kB false))])
 .ret)))
theorem c14:(Go.Proofs.Tryz.f14).body.bind (comp prog.P (2,(Go.Proofs.Tryz.f14).ntmps) aLZ)=some m14:=by kernel_rfl
theorem r14:bA prog.P (Go.Proofs.Tryz.f14).results.toList=true:=by kernel_rfl
def aNW:List (Nat×List Nat):=[(0,[0,2]),(1,[2,4]),(2,[2,4,5]),(3,[2,4,5,6]),(4,[2,4,5,6,7]),(5,[2,4,5,6,7,8]),(6,[2,4,5,6,7,8,22]),(7,[2,4,5,6,7,8]),(8,[2,4,5,6,7,8,9]),(9,[2,4,5,6,7,8,9]),(10,[2,4,5,6,7,8,10,11]),(11,[2,4,5,6,7,8,10,38]),(12,[2,4,5,6,7,8]),(13,[2,4,5,6,41]),(14,[2,4,5,6,47]),(15,[2,4,5,6]),(16,[2,3])]
def m15:MC :=
 (.seq
 (.reg false [0,2] [oX 2 (.alloc (.st (.cons (.int .i64 0) (.cons (.sl true 4 .nil) (.cons (.int .i64 0) (.cons (.int .i64 0) (.cons (.sl true 1 .nil) .nil))))))),
 oQ 3 (.mov (.k .nil))])
 (.seq
 (.reg false [2,4] [oQ 12 (.mov (.t 0)),
 oX 13 (.bld (.cons (.sl true 1 .nil) (.cons (.int .i64 0) (.cons (.int .u64 0) .nil))) [(0,(.t 12))]),
 oX 14 (.box (.t 13)),
 oQ 4 (.mov (.t 14))])
 (.seq
 (.reg false [2,4,5] [oQ 15 (.mov (.t 4)),
 oX 16 (.call 35 [(.t 15)]),
 oX 5 (.alloc (.st (.cons (.int .i64 0) (.cons (.sl true 4 .nil) (.cons (.int .i64 0) (.cons (.int .i64 0) (.cons (.sl true 1 .nil) .nil))))))),
 oN (.st 5 (.t 5) (.t 16))])
 (.seq
 (.reg false [2,4,5,6] [oX 17 (.bs 4 0 (.st (.cons (.int .i64 0) (.cons (.int .i64 0) (.cons (.int .i64 0) (.cons (.int .i64 0) .nil))))) []),
 oQ 6 (.mov (.t 17))])
 (.seq
 (.reg false [2,4,5,6,7] [oQ 18 (.ldv 5 (.t 5)),
 oX 7 (.alloc (.st (.cons (.int .i64 0) (.cons (.sl true 4 .nil) (.cons (.int .i64 0) (.cons (.int .i64 0) (.cons (.sl true 1 .nil) .nil))))))),
 oN (.st 5 (.t 7) (.t 18))])
 (.seq
 (.seq
 (.reg false [2,4,5,6,7,8] [oQ 19 (.mov (.t 4)),
 oX 20 (.call 50 [(.t 19),(kI 12)]),
 oQ 8 (.mov (.t 20))])
 (.block 0
 (.loop
 (.seq
 (.seq
 (.reg false [2,4,5,6,7,8,22] [oQ 21 (.mov (.t 8)),
 oQ 22 (.bin .gtr (.t 21) (kI 0))])
 (.cond (.t 22)
 .skip
 (.exit 0)))
 (.seq
 (.block 1
 (.seq
 (.reg false [2,4,5,6,7,8,9] [oQ 25 (.mov (.t 4)),
 oQ 26 (.ldv 5 (.t 7)),
 oX 27 (.call 36 [(.t 25),(.t 26)]),
 oX 9 (.alloc (.st (.cons (.int .i64 0) (.cons (.int .i64 0) (.cons (.int .i64 0) (.cons (.int .i64 0) .nil)))))),
 oN (.st 4 (.t 9) (.t 27))])
 (.seq
 (.reg false [2,4,5,6,7,8,9] [oQ 28 (.mov (.t 6)),
 oQ 29 (.ld (some 4) (.t 9)),
 oX 30 (.bs 4 1 (.st (.cons (.int .i64 0) (.cons (.int .i64 0) (.cons (.int .i64 0) (.cons (.int .i64 0) .nil))))) [(0,(.t 29))]),
 oX 31 (.app 4 32 (.t 28) (.t 30)),
 oQ 6 (.mov (.t 31))])
 (.seq
 (.reg false [2,4,5,6,7,8,10,11] [oQ 33 (.ldv 5 (.t 7)),
 oQ 34 (.ld (some 4) (.t 9)),
 oX 35 (.call 8 [(.t 33),(.t 34)]),
 oQ 32 (.mov (.t 35)),
 oQ 36 (.ext (.t 32) 0),
 oQ 37 (.ext (.t 32) 1),
 oX 10 (.alloc (.st (.cons (.int .i64 0) (.cons (.sl true 4 .nil) (.cons (.int .i64 0) (.cons (.int .i64 0) (.cons (.sl true 1 .nil) .nil))))))),
 oN (.st 5 (.t 10) (.t 36)),
 oQ 11 (.mov (.t 37))])
 (.seq
 (.reg false [2,4,5,6,7,8,10,38] [oQ 38 (.mov (.t 11))])
 (.cond (.t 38)
 (.reg false [2,4,5,6,7,8] [oQ 39 (.ldv 5 (.t 10)),
 oN (.st 5 (.t 7) (.t 39))])
 .skip))))))
 (.reg false [2,4,5,6,7,8] [oQ 23 (.mov (.t 8)),
 oQ 24 (.bin .sub (.t 23) (kI 1)),
 oQ 8 (.mov (.t 24))]))))))
 (.seq
 (.seq
 (.reg false [2,4,5,6,41] [oQ 40 (.mov (.t 4)),
 oX 41 (.call 51 [(.t 40),(kI 24)])])
 (.cond (.t 41)
 (.block 2
 (.loop
 (.seq
 (.seq
 (.reg false [2,4,5,6,47] [oQ 42 (.mov (.t 6)),
 oQ 43 (.len false (.t 42)),
 oQ 44 (.mov (.t 4)),
 oX 45 (.call 50 [(.t 44),(kI 2)]),
 oQ 46 (.bin .add (kI 40) (.t 45)),
 oQ 47 (.bin .lss (.t 43) (.t 46))])
 (.cond (.t 47)
 .skip
 (.exit 2)))
 (.block 3
 (.reg false [2,4,5,6] [oQ 48 (.mov (.t 6)),
 oX 49 (.bld (.cons (.int .i64 0) (.cons (.int .i64 0) (.cons (.int .i64 0) (.cons (.int .i64 0) .nil)))) [(0,(kI 1)),(3,(kI 1))]),
 oX 50 (.bs 4 1 (.st (.cons (.int .i64 0) (.cons (.int .i64 0) (.cons (.int .i64 0) (.cons (.int .i64 0) .nil))))) [(0,(.t 49))]),
 oX 51 (.app 4 32 (.t 48) (.t 50)),
 oQ 6 (.mov (.t 51))])))))
 .skip))
 (.seq
 (.reg false [2,3] [oQ 52 (.ldv 5 (.t 5)),
 oQ 53 (.mov (.t 6)),
 oN (.st 5 (.t 2) (.t 52)),
 oQ 3 (.mov (.t 53))])
 .ret))))))))
theorem c15:(Go.Proofs.Tryz.f15).body.bind (comp prog.P (1,(Go.Proofs.Tryz.f15).ntmps) aNW)=some m15:=by kernel_rfl
theorem r15:bA prog.P (Go.Proofs.Tryz.f15).results.toList=true:=by kernel_rfl
def aMd:List (Nat×List Nat):=[(0,[1,2,4]),(1,[1,2,4,19]),(2,[4,5,6]),(3,[1,2,4]),(4,[1,2,4,7]),(5,[2,4,7,23,24,25]),(6,[2,4,7,23,24,25,26]),(7,[2,4,7,9,23,24,25]),(8,[2,4,7,10,11,23,24,25]),(9,[2,4,7,10,23,24,25,35]),(10,[2,4,7,23,24,25]),(11,[2,4,7,23,24,25]),(12,[2,4,7,23,24,25]),(13,[4,5,6])]
def m16:MC :=
 (.seq
 (.reg false [1,2,4] [oX 2 (.box (.t 0)),
 oX 4 (.alloc (.st (.cons (.int .i64 0) (.cons (.sl true 4 .nil) (.cons (.int .i64 0) (.cons (.int .i64 0) (.cons (.sl true 1 .nil) .nil))))))),
 oQ 5 (.mov (kI 0)),
 oQ 6 (.mov (kB false))])
 (.seq
 (.seq
 (.reg false [1,2,4,19] [oQ 12 (.ldv 5 (.t 2)),
 oX 13 (.call 10 [(.t 12)]),
 oQ 14 (.un .not (.t 13)),
 oQ 15 (.mov (.t 14)),
 oG 16 15 false (.mov (.t 1)),
 oG 17 15 false (.len false (.t 16)),
 oG 18 15 false (.bin .gtr (.t 17) (kI 40)),
 oQ 19 (.pick (.t 15) (kB true) (.t 18))])
 (.cond (.t 19)
 (.seq
 (.reg false [4,5,6] [oX 20 (.bld (.cons (.int .i64 0) (.cons (.sl true 4 .nil) (.cons (.int .i64 0) (.cons (.int .i64 0) (.cons (.sl true 1 .nil) .nil))))) []),
 oN (.st 5 (.t 4) (.t 20)),
 oQ 5 (.mov (kI 0)),
 oQ 6 (.mov (kB false))])
 .ret)
 .skip))
 (.seq
 (.reg false [1,2,4] [oQ 21 (.ldv 5 (.t 2)),
 oX 22 (.call 38 [(.t 21)]),
 oN (.st 5 (.t 2) (.t 22))])
 (.seq
 (.reg false [1,2,4,7] [oQ 7 (.mov (kI 0))])
 (.seq
 (.seq
 (.reg false [2,4,7,23,24,25] [oQ 23 (.mov (.t 1)),
 oQ 24 (.len false (.t 23)),
 oQ 25 (.mov (kI 0))])
 (.block 0
 (.loop
 (.seq
 (.reg false [2,4,7,23,24,25,26] [oQ 26 (.bin .lss (.t 25) (.t 24))])
 (.seq
 (.cond (.t 26)
 .skip
 (.exit 0))
 (.seq
 (.block 1
 (.seq
 (.reg false [2,4,7,9,23,24,25] [oQ 27 (.ia 4 (.t 23) (.t 25)),
 oQ 28 (.ld (some 4) (.t 27)),
 oX 9 (.alloc (.st (.cons (.int .i64 0) (.cons (.int .i64 0) (.cons (.int .i64 0) (.cons (.int .i64 0) .nil)))))),
 oN (.st 4 (.t 9) (.t 28))])
 (.seq
 (.reg false [2,4,7,10,11,23,24,25] [oQ 30 (.ldv 5 (.t 2)),
 oQ 31 (.ld (some 4) (.t 9)),
 oX 32 (.call 7 [(.t 30),(.t 31)]),
 oQ 29 (.mov (.t 32)),
 oQ 33 (.ext (.t 29) 0),
 oQ 34 (.ext (.t 29) 1),
 oX 10 (.alloc (.st (.cons (.int .i64 0) (.cons (.sl true 4 .nil) (.cons (.int .i64 0) (.cons (.int .i64 0) (.cons (.sl true 1 .nil) .nil))))))),
 oN (.st 5 (.t 10) (.t 33)),
 oQ 11 (.mov (.t 34))])
 (.seq
 (.reg false [2,4,7,10,23,24,25,35] [oQ 35 (.mov (.t 11))])
 (.cond (.t 35)
 (.seq
 (.reg false [2,4,7,23,24,25] [oQ 36 (.ldv 5 (.t 10)),
 oN (.st 5 (.t 2) (.t 36))])
 (.reg false [2,4,7,23,24,25] [oQ 37 (.mov (.t 7)),
 oQ 38 (.bin .add (.t 37) (kI 1)),
 oQ 7 (.mov (.t 38))]))
 .skip)))))
 (.reg false [2,4,7,23,24,25] [oQ 39 (.bin .add (.t 25) (kI 1)),
 oQ 25 (.mov (.t 39))])))))))
 (.seq
 (.reg false [4,5,6] [oQ 40 (.ldv 5 (.t 2)),
 oQ 41 (.mov (.t 7)),
 oN (.st 5 (.t 4) (.t 40)),
 oQ 5 (.mov (.t 41)),
 oQ 6 (.mov (kB true))])
 .ret))))))
theorem c16:(Go.Proofs.Tryz.f16).body.bind (comp prog.P (2,(Go.Proofs.Tryz.f16).ntmps) aMd)=some m16:=by kernel_rfl
theorem r16:bA prog.P (Go.Proofs.Tryz.f16).results.toList=true:=by kernel_rfl
def aNV:List (Nat×List Nat):=[(0,[1,2,4]),(1,[1,2,4,19]),(2,[4,5,6]),(3,[1,4,7,8]),(4,[1,4,7,8,9]),(5,[1,4,7,8,9,26]),(6,[1,4,7,8,9]),(7,[1,4,7,8,9,35]),(8,[1,4,7,8,9,10,11]),(9,[1,4,7,8,9,10,45]),(10,[1,4,7,8,9]),(11,[1,4,7,8,9]),(12,[4,5,6]),(1000008,[2,10,11,1,1,1,2,1,3,1,4,3,2,0,3,2,5,1,6,1,7,1,8,2,9,2,10,2,11,0,2,9,2,5,1,6,1,7,1,8,2,10,2,11,0,2,9,2,0,2,5,1,6,1,7,1,8,2,10,2,11,0])]
def m17:MC :=
 (.seq
 (.reg false [1,2,4] [oX 2 (.box (.t 0)),
 oX 4 (.alloc (.st (.cons (.int .i64 0) (.cons (.sl true 4 .nil) (.cons (.int .i64 0) (.cons (.int .i64 0) (.cons (.sl true 1 .nil) .nil))))))),
 oQ 5 (.mov (kI 0)),
 oQ 6 (.mov (kB false))])
 (.seq
 (.seq
 (.reg false [1,2,4,19] [oQ 12 (.ldv 5 (.t 2)),
 oX 13 (.call 40 [(.t 12)]),
 oQ 14 (.un .not (.t 13)),
 oQ 15 (.mov (.t 14)),
 oG 16 15 false (.mov (.t 1)),
 oG 17 15 false (.len false (.t 16)),
 oG 18 15 false (.bin .gtr (.t 17) (kI 40)),
 oQ 19 (.pick (.t 15) (kB true) (.t 18))])
 (.cond (.t 19)
 (.seq
 (.reg false [4,5,6] [oX 20 (.bld (.cons (.int .i64 0) (.cons (.sl true 4 .nil) (.cons (.int .i64 0) (.cons (.int .i64 0) (.cons (.sl true 1 .nil) .nil))))) []),
 oN (.st 5 (.t 4) (.t 20)),
 oQ 5 (.mov (kI 0)),
 oQ 6 (.mov (kB false))])
 .ret)
 .skip))
 (.seq
 (.reg false [1,4,7,8] [oQ 21 (.ldv 5 (.t 2)),
 oX 22 (.call 52 [(.t 21)]),
 oX 7 (.alloc (.st (.cons (.int .i64 0) (.cons (.sl true 4 .nil) (.cons (.int .i64 0) (.cons (.int .i64 0) (.cons (.sl true 1 .nil) .nil))))))),
 oN (.st 5 (.t 7) (.t 22)),
 oQ 8 (.mov (kI 0))])
 (.seq
 (.seq
 (.reg false [1,4,7,8,9] [oQ 9 (.mov (kI 0))])
 (.block 0
 (.loop
 (.seq
 (.seq
 (.reg false [1,4,7,8,9,26] [oQ 23 (.mov (.t 9)),
 oQ 24 (.mov (.t 1)),
 oQ 25 (.len false (.t 24)),
 oQ 26 (.bin .lss (.t 23) (.t 25))])
 (.cond (.t 26)
 .skip
 (.exit 0)))
 (.seq
 (.block 1
 (.seq
 (.seq
 (.reg true [1,4,7,8,9,35] [oQ 29 (.ldv 5 (.t 7)),
 oQ 30 (.mov (.t 1)),
 oQ 31 (.mov (.t 9)),
 oQ 32 (.ia 4 (.t 30) (.t 31)),
 oQ 33 (.ld (some 4) (.t 32)),
 oQ 34 (.callP 41 [(.t 29),(.t 33)]),
 oQ 35 (.un .not (.t 34))])
 (.cond (.t 35)
 (.exit 1)
 .skip))
 (.seq
 (.any [10,11] [1,4,7,8,9,10,11] (.q 1 (oQ 38 (.mov (.t 1))) (.q 2 (oQ 39 (.mov (.t 9))) (.q 3 (oQ 40 (.ia 4 (.t 38) (.t 39))) (.q 4 (oQ 41 (.ld (some 4) (.t 40))) (.br (.e 0 (oQ 37 (.ldv 5 (.t 7))) (.br (.e 5 (oX 42 (.call 42 [(.t 37),(.t 41)])) (.q 6 (oQ 36 (.mov (.t 42))) (.q 7 (oQ 43 (.ext (.t 36) 0)) (.q 8 (oQ 44 (.ext (.t 36) 1)) (.e 9 (oX 10 (.alloc (.st (.cons (.int .i64 0) (.cons (.sl true 4 .nil) (.cons (.int .i64 0) (.cons (.int .i64 0) (.cons (.sl true 1 .nil) .nil)))))))) (.e 10 (oN (.st 5 (.t 10) (.t 43))) (.e 11 (oQ 11 (.mov (.t 44))) .done)))))))
 (.e 9 (oX 10 (.alloc (.st (.cons (.int .i64 0) (.cons (.sl true 4 .nil) (.cons (.int .i64 0) (.cons (.int .i64 0) (.cons (.sl true 1 .nil) .nil)))))))) (.e 5 (oX 42 (.call 42 [(.t 37),(.t 41)])) (.q 6 (oQ 36 (.mov (.t 42))) (.q 7 (oQ 43 (.ext (.t 36) 0)) (.q 8 (oQ 44 (.ext (.t 36) 1)) (.e 10 (oN (.st 5 (.t 10) (.t 43))) (.e 11 (oQ 11 (.mov (.t 44))) .done)))))))))
 (.e 9 (oX 10 (.alloc (.st (.cons (.int .i64 0) (.cons (.sl true 4 .nil) (.cons (.int .i64 0) (.cons (.int .i64 0) (.cons (.sl true 1 .nil) .nil)))))))) (.e 0 (oQ 37 (.ldv 5 (.t 7))) (.e 5 (oX 42 (.call 42 [(.t 37),(.t 41)])) (.q 6 (oQ 36 (.mov (.t 42))) (.q 7 (oQ 43 (.ext (.t 36) 0)) (.q 8 (oQ 44 (.ext (.t 36) 1)) (.e 10 (oN (.st 5 (.t 10) (.t 43))) (.e 11 (oQ 11 (.mov (.t 44))) .done))))))))))))))
 (.seq
 (.reg false [1,4,7,8,9,10,45] [oQ 45 (.mov (.t 11))])
 (.cond (.t 45)
 (.seq
 (.reg false [1,4,7,8,9] [oQ 46 (.ldv 5 (.t 10)),
 oN (.st 5 (.t 7) (.t 46))])
 (.reg false [1,4,7,8,9] [oQ 47 (.mov (.t 8)),
 oQ 48 (.bin .add (.t 47) (kI 1)),
 oQ 8 (.mov (.t 48))]))
 .skip)))))
 (.reg false [1,4,7,8,9] [oQ 27 (.mov (.t 9)),
 oQ 28 (.bin .add (.t 27) (kI 1)),
 oQ 9 (.mov (.t 28))]))))))
 (.seq
 (.reg false [4,5,6] [oQ 49 (.ldv 5 (.t 7)),
 oQ 50 (.mov (.t 8)),
 oN (.st 5 (.t 4) (.t 49)),
 oQ 5 (.mov (.t 50)),
 oQ 6 (.mov (kB true))])
 .ret)))))
theorem c17:(Go.Proofs.Tryz.f17).body.bind (comp prog.P (2,(Go.Proofs.Tryz.f17).ntmps) aNV)=some m17:=by kernel_rfl
theorem r17:bA prog.P (Go.Proofs.Tryz.f17).results.toList=true:=by kernel_rfl
def aMK:List (Nat×List Nat):=[(0,[0]),(1,[3]),(2,[2])]
def m18:MC :=
 (.seq
 (.reg false [0] [oQ 2 (.mov (kI 0))])
 (.seq
 (.reg false [3] [oQ 4 (.mov (.t 0)),
 oX 5 (.bld (.cons (.sl true 1 .nil) (.cons (.int .i64 0) (.cons (.int .u64 0) .nil))) [(0,(.t 4))]),
 oX 6 (.box (.t 5)),
 oQ 3 (.mov (.t 6))])
 (.seq
 (.reg false [2] [oQ 7 (.mov (.t 3)),
 oX 8 (.call 53 [(.t 7)]),
 oQ 2 (.mov (.t 8))])
 .ret)))
theorem c18:(Go.Proofs.Tryz.f18).body.bind (comp prog.P (1,(Go.Proofs.Tryz.f18).ntmps) aMK)=some m18:=by kernel_rfl
theorem r18:bA prog.P (Go.Proofs.Tryz.f18).results.toList=true:=by kernel_rfl
def aMh:List (Nat×List Nat):=[(0,[0,2]),(1,[0,2,6]),(2,[2,3]),(3,[2,3])]
def m19:MC :=
 (.seq
 (.reg false [0,2] [oX 2 (.alloc (.st (.cons (.int .i64 0) (.cons (.sl true 4 .nil) (.cons (.int .i64 0) (.cons (.int .i64 0) (.cons (.sl true 1 .nil) .nil))))))),
 oQ 3 (.mov (kB false))])
 (.seq
 (.seq
 (.reg false [0,2,6] [oQ 4 (.mov (.t 0)),
 oX 5 (.call 44 [(.t 4)]),
 oQ 6 (.un .not (.t 5))])
 (.cond (.t 6)
 (.seq
 (.reg false [2,3] [oX 7 (.bld (.cons (.int .i64 0) (.cons (.sl true 4 .nil) (.cons (.int .i64 0) (.cons (.int .i64 0) (.cons (.sl true 1 .nil) .nil))))) []),
 oN (.st 5 (.t 2) (.t 7)),
 oQ 3 (.mov (kB false))])
 .ret)
 .skip))
 (.seq
 (.reg false [2,3] [oQ 8 (.mov (.t 0)),
 oX 9 (.bld (.cons (.int .i64 0) (.cons (.sl true 4 .nil) (.cons (.int .i64 0) (.cons (.int .i64 0) (.cons (.sl true 1 .nil) .nil))))) [(0,(.t 8))]),
 oN (.st 5 (.t 2) (.t 9)),
 oQ 3 (.mov (kB true))])
 .ret)))
theorem c19:(Go.Proofs.Tryz.f19).body.bind (comp prog.P (1,(Go.Proofs.Tryz.f19).ntmps) aMh)=some m19:=by kernel_rfl
theorem r19:bA prog.P (Go.Proofs.Tryz.f19).results.toList=true:=by kernel_rfl
def aMM:List (Nat×List Nat):=[(0,[0,2]),(1,[0,2,6]),(2,[2,3]),(3,[2,3])]
def m20:MC :=
 (.seq
 (.reg false [0,2] [oX 2 (.alloc (.st (.cons (.int .i64 0) (.cons (.sl true 4 .nil) (.cons (.int .i64 0) (.cons (.int .i64 0) (.cons (.sl true 1 .nil) .nil))))))),
 oQ 3 (.mov (kB false))])
 (.seq
 (.seq
 (.reg false [0,2,6] [oQ 4 (.mov (.t 0)),
 oX 5 (.call 54 [(.t 4)]),
 oQ 6 (.un .not (.t 5))])
 (.cond (.t 6)
 (.seq
 (.reg false [2,3] [oX 7 (.bld (.cons (.int .i64 0) (.cons (.sl true 4 .nil) (.cons (.int .i64 0) (.cons (.int .i64 0) (.cons (.sl true 1 .nil) .nil))))) []),
 oN (.st 5 (.t 2) (.t 7)),
 oQ 3 (.mov (kB false))])
 .ret)
 .skip))
 (.seq
 (.reg false [2,3] [oQ 8 (.mov (.t 0)),
 oX 9 (.bs 4 0 (.st (.cons (.int .i64 0) (.cons (.int .i64 0) (.cons (.int .i64 0) (.cons (.sl true 1 .nil) .nil))))) []),
 oX 10 (.bs 1 0 (.str []) []),
 oX 11 (.bld (.cons (.int .i64 0) (.cons (.sl true 4 .nil) (.cons (.int .i64 0) (.cons (.int .i64 0) (.cons (.sl true 1 .nil) .nil))))) [(0,(.t 8)),(1,(.t 9)),(4,(.t 10))]),
 oN (.st 5 (.t 2) (.t 11)),
 oQ 3 (.mov (kB true))])
 .ret)))
theorem c20:(Go.Proofs.Tryz.f20).body.bind (comp prog.P (1,(Go.Proofs.Tryz.f20).ntmps) aMM)=some m20:=by kernel_rfl
theorem r20:bA prog.P (Go.Proofs.Tryz.f20).results.toList=true:=by kernel_rfl
def aNC:List (Nat×List Nat):=[(0,[0,1]),(1,[0,1,10]),(2,[4]),(3,[0,1,5]),(4,[0,1,5,14]),(5,[0,1,5]),(6,[0,1,5,25]),(7,[4]),(8,[4])]
def m23:MC :=
 (.seq
 (.reg false [0,1] [oQ 4 (.mov (kB false))])
 (.seq
 (.seq
 (.reg false [0,1,10] [oQ 6 (.mov (.t 0)),
 oQ 7 (.len false (.t 6)),
 oQ 8 (.mov (.t 1)),
 oQ 9 (.len false (.t 8)),
 oQ 10 (.bin .neq (.t 7) (.t 9))])
 (.cond (.t 10)
 (.seq
 (.reg false [4] [oQ 4 (.mov (kB false))])
 .ret)
 .skip))
 (.seq
 (.seq
 (.reg false [0,1,5] [oQ 5 (.mov (kI 0))])
 (.block 0
 (.loop
 (.seq
 (.seq
 (.reg false [0,1,5,14] [oQ 11 (.mov (.t 5)),
 oQ 12 (.mov (.t 0)),
 oQ 13 (.len false (.t 12)),
 oQ 14 (.bin .lss (.t 11) (.t 13))])
 (.cond (.t 14)
 .skip
 (.exit 0)))
 (.seq
 (.block 1
 (.seq
 (.reg true [0,1,5,25] [oQ 17 (.mov (.t 0)),
 oQ 18 (.mov (.t 5)),
 oQ 19 (.ia 1 (.t 17) (.t 18)),
 oQ 20 (.ld none (.t 19)),
 oQ 21 (.mov (.t 1)),
 oQ 22 (.mov (.t 5)),
 oQ 23 (.ia 1 (.t 21) (.t 22)),
 oQ 24 (.ld none (.t 23)),
 oQ 25 (.bin .neq (.t 20) (.t 24))])
 (.cond (.t 25)
 (.seq
 (.reg false [4] [oQ 4 (.mov (kB false))])
 .ret)
 .skip)))
 (.reg false [0,1,5] [oQ 15 (.mov (.t 5)),
 oQ 16 (.bin .add (.t 15) (kI 1)),
 oQ 5 (.mov (.t 16))]))))))
 (.seq
 (.reg false [4] [oQ 4 (.mov (kB true))])
 .ret))))
theorem c23:(Go.Proofs.Tryz.f23).body.bind (comp prog.P (2,(Go.Proofs.Tryz.f23).ntmps) aNC)=some m23:=by kernel_rfl
theorem r23:bA prog.P (Go.Proofs.Tryz.f23).results.toList=true:=by kernel_rfl
end Go.Pe.Tryz
