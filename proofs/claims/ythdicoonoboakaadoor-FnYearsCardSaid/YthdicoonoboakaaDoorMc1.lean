/-
The compact code of the functions that the law reaches, printed by gen.py, each with the proof that the machine's code is compiled to it.
-/
import Derived.Test.YthdicoonoboakaaDoorPeC
import Derived.Lib.ItoaNum
import Derived.Lib.LaidTab
import Derived.Test.YthdicoonoboakaaDoorProg
import Derived.KernelRfl
set_option maxRecDepth 100000
namespace Go.Pe.Tryd
open Go.Pe
theorem tab_stab {P : Program} {n : String} {k : IntKind} {zs : List Int} {g : Nat} (hg : P.globalNamed n = some g) (w w' : World) (_ : w.heap.size ≤ w'.heap.size) (hk : ∀ b, b < w.heap.size → w'.heap[b]? = w.heap[b]?) (h : Go.Lib.TabIs P w n k zs) : Go.Lib.TabIs P w' n k zs := by
  unfold Go.Lib.TabIs World.var? at h ⊢
  rw [hg] at h ⊢
  simp only [Option.bind_some] at h ⊢
  by_cases hb : g < w.heap.size
  · rw [hk g hb]; exact h
  · rw [Array.getElem?_eq_none (by omega)] at h
    simp at h
theorem cell_stab (g : Nat) (w w' : World) (hk : ∀ b, b < w.heap.size → w'.heap[b]? = w.heap[b]?) (h : ∃ m, w.cell? ⟨g, 0, none⟩ = some (.int .i64 m)) : ∃ m, w'.cell? ⟨g, 0, none⟩ = some (.int .i64 m) := by
  obtain ⟨m, h⟩ := h
  by_cases hb : g < w.heap.size
  · refine ⟨m, ?_⟩
    unfold World.cell? at h ⊢
    rw [hk g hb]; exact h
  · have hn : w.heap[g]? = none := Array.getElem?_eq_none (by omega)
    simp [World.cell?, hn] at h
noncomputable def prog : PG := ⟨Go.Proofs.Tryd.prog, fun w => (Go.Lib.TabIs Go.Proofs.Tryd.prog w "internal/strconv.uint64pow10" .u64 Go.Lib.pow10Tab) ∧ (∃ m, w.cell? ⟨0, 0, none⟩ = some (.int .i64 m)), fun w w' hs hk h => ⟨tab_stab (show Go.Proofs.Tryd.prog.globalNamed "internal/strconv.uint64pow10" = some 3 by kernel_rfl) w w' hs hk h.1, cell_stab 0 w w' hk h.2⟩⟩
theorem tabOf {w : World} (h : prog.F w) : Go.Lib.TabIs Go.Proofs.Tryd.prog w "internal/strconv.uint64pow10" .u64 Go.Lib.pow10Tab := h.1
theorem maxOf {w : World} (h : prog.F w) : ∃ m, w.cell? ⟨0, 0, none⟩ = some (.int .i64 m) := h.2
theorem sz33 : sizeOfT prog.P 33 = some 5 := by kernel_rfl
def lv3 : List (Nat × List Nat) := [(0, [0]), (1, [0, 37]), (2, [2]), (3, [0, 3, 4]), (4, [0, 3, 4, 5, 6]), (5, [0, 3, 4, 5, 6, 7, 8]), (6, [0, 3, 4, 5, 6, 70]), (7, [2]), (8, [0, 3, 4, 5, 6, 9]), (9, [0, 3, 4, 5, 6, 9, 10]), (10, [0, 3, 4, 5, 6, 9, 10, 75]), (11, [0, 3, 4, 5, 6, 9, 10]), (12, [0, 3, 4, 5, 6, 9, 10, 11]), (13, [0, 3, 4, 5, 6, 10, 106]), (14, [2]), (15, [0, 3, 4, 5, 6, 9, 10]), (16, [0, 3, 4, 6, 12]), (17, [0, 3, 4, 6, 12, 13, 14]), (18, [0, 3, 4, 6, 12, 13, 14, 15, 16]), (19, [0, 3, 4, 6, 12, 13, 14, 136]), (20, [2]), (21, [0, 3, 4, 6, 12, 13, 137]), (22, [0, 3, 4, 6, 12, 17, 18, 19, 20]), (23, [0, 3, 4, 6, 170]), (24, [2]), (25, [3, 4, 6, 21]), (26, [3, 4, 6, 21, 22, 23, 24, 25]), (27, [3, 4, 6, 22, 23, 24, 25, 26, 27, 28, 29]), (28, [3, 4, 6, 204]), (29, [2]), (30, [3, 4, 6, 30, 31]), (31, [4, 6, 30, 31, 32, 33]), (32, [4, 30, 31, 229]), (33, [2]), (34, [4, 30, 31, 34]), (35, [4, 30, 31, 34, 35]), (36, [4, 30, 31, 34, 35, 233]), (37, [4, 30, 31, 34, 35]), (38, [4, 30, 31, 34, 35, 239]), (39, [4, 30, 31, 34, 35]), (40, [2])]
def m3 : MC :=
  (.seq
 (.reg false [0] [oQ 2 (.mov (kB false))])
 (.seq
 (.seq
 (.reg false [0, 37] [oQ 36 (.mov (.t 0)),
 oX 37 (.call 4 [(.t 36)])])
 (.cond (.t 37)
 (.seq
 (.reg false [2] [oQ 2 (.mov (kB true))])
 .ret)
 .skip))
 (.seq
 (.reg false [0, 3, 4] [oQ 39 (.mov (.t 0)),
 oX 40 (.call 5 [(.t 39)]),
 oQ 38 (.mov (.t 40)),
 oQ 41 (.ext (.t 38) 0),
 oQ 42 (.ext (.t 38) 1),
 oQ 3 (.mov (.t 41)),
 oQ 4 (.mov (.t 42))])
 (.seq
 (.reg false [0, 3, 4, 5, 6] [oQ 44 (.mov (.t 3)),
 oQ 45 (.mov (.t 4)),
 oX 46 (.call 6 [(.t 44), (.t 45)]),
 oQ 43 (.mov (.t 46)),
 oQ 47 (.ext (.t 43) 0),
 oQ 48 (.ext (.t 43) 1),
 oQ 5 (.mov (.t 47)),
 oQ 6 (.mov (.t 48))])
 (.seq
 (.seq
 (.reg false [0, 3, 4, 5, 6, 7, 8] [oQ 50 (.mov (.t 3)),
 oQ 51 (.mov (.t 4)),
 oX 52 (.call 7 [(.t 50), (.t 51)]),
 oQ 49 (.mov (.t 52)),
 oQ 53 (.ext (.t 49) 0),
 oQ 54 (.ext (.t 49) 1),
 oQ 7 (.mov (.t 53)),
 oQ 8 (.mov (.t 54))])
 (.seq
 (.reg false [0, 3, 4, 5, 6, 70] [oQ 55 (.mov (.t 6)),
 oQ 56 (.mov (.t 8)),
 oQ 57 (.bb .neq (.t 55) (.t 56)),
 oQ 58 (.mov (.t 57)),
 oG 59 58 false (.mov (.t 5)),
 oG 60 58 false (.mov (.t 7)),
 oH 61 58 false (.call 8 [(.t 59), (.t 60)]),
 oG 62 58 false (.un .not (.t 61)),
 oQ 63 (.pick (.t 58) (kB true) (.t 62)),
 oQ 64 (.mov (.t 63)),
 oG 65 64 false (.mov (.t 6)),
 oG 66 64 false (.mov (.t 3)),
 oG 67 64 false (.mov (.t 4)),
 oH 68 64 false (.call 9 [(.t 66), (.t 67)]),
 oG 69 64 false (.bb .neq (.t 65) (.t 68)),
 oQ 70 (.pick (.t 64) (kB true) (.t 69))])
 (.cond (.t 70)
 (.seq
 (.reg false [2] [oQ 2 (.mov (kB false))])
 .ret)
 .skip)))
 (.seq
 (.reg false [0, 3, 4, 5, 6, 9] [oQ 71 (.mov (.t 3)),
 oQ 9 (.mov (.t 71))])
 (.seq
 (.seq
 (.reg false [0, 3, 4, 5, 6, 9, 10] [oQ 10 (.mov (kI 0))])
 (.block 0
 (.loop
 (.seq
 (.seq
 (.reg false [0, 3, 4, 5, 6, 9, 10, 75] [oQ 72 (.mov (.t 10)),
 oQ 73 (.mov (.t 5)),
 oQ 74 (.len false (.t 73)),
 oQ 75 (.bin .lss (.t 72) (.t 74))])
 (.cond (.t 75)
 .skip
 (.exit 0)))
 (.seq
 (.block 1
 (.seq
 (.reg false [0, 3, 4, 5, 6, 9, 10, 11] [oQ 78 (.mov (.t 4)),
 oQ 79 (.mov (.t 10)),
 oQ 80 (.ia 5 (.t 78) (.t 79)),
 oQ 81 (.ld (some 5) (.t 80)),
 oX 11 (.alloc (.st (.cons (.int .i64 0) (.cons (.int .i64 0) (.cons (.int .i64 0) (.cons (.int .i64 0) (.cons (.int .i64 0) .nil))))))),
 oN (.st 5 (.t 11) (.t 81))])
 (.seq
 (.seq
 (.reg true [0, 3, 4, 5, 6, 10, 106] [oQ 82 (.mov (.t 5)),
 oQ 83 (.mov (.t 10)),
 oQ 84 (.ia 1 (.t 82) (.t 83)),
 oQ 85 (.ld none (.t 84)),
 oQ 86 (.bin .lss (.t 85) (kI 0)),
 oQ 87 (.mov (.t 86)),
 oG 88 87 false (.mov (.t 5)),
 oG 89 87 false (.mov (.t 10)),
 oG 90 87 false (.ia 1 (.t 88) (.t 89)),
 oG 91 87 false (.ld none (.t 90)),
 oG 92 87 false (.mov (.t 9)),
 oG 93 87 false (.fa 1 1 (.t 11)),
 oG 94 87 false (.ld none (.t 93)),
 oG 95 87 false (.bin .add (.t 92) (.t 94)),
 oG 96 87 false (.fa 2 2 (.t 11)),
 oG 97 87 false (.ld none (.t 96)),
 oG 98 87 false (.bin .sub (.t 95) (.t 97)),
 oG 99 87 false (.fa 3 3 (.t 11)),
 oG 100 87 false (.ld none (.t 99)),
 oG 101 87 false (.bin .sub (.t 98) (.t 100)),
 oG 102 87 false (.fa 4 4 (.t 11)),
 oG 103 87 false (.ld none (.t 102)),
 oG 104 87 false (.bin .sub (.t 101) (.t 103)),
 oG 105 87 false (.bin .neq (.t 91) (.t 104)),
 oQ 106 (.pick (.t 87) (kB true) (.t 105))])
 (.cond (.t 106)
 (.seq
 (.reg false [2] [oQ 2 (.mov (kB false))])
 .ret)
 .skip))
 (.reg false [0, 3, 4, 5, 6, 9, 10] [oQ 107 (.mov (.t 5)),
 oQ 108 (.mov (.t 10)),
 oQ 109 (.ia 1 (.t 107) (.t 108)),
 oQ 110 (.ld none (.t 109)),
 oQ 9 (.mov (.t 110))]))))
 (.reg false [0, 3, 4, 5, 6, 9, 10] [oQ 76 (.mov (.t 10)),
 oQ 77 (.bin .add (.t 76) (kI 1)),
 oQ 10 (.mov (.t 77))]))))))
 (.seq
 (.reg false [0, 3, 4, 6, 12] [oQ 111 (.mov (.t 0)),
 oX 112 (.call 10 [(.t 111)]),
 oX 12 (.alloc (.st (.cons (.int .i64 0) (.cons (.int .i64 0) (.cons (.int .i64 0) (.cons (.int .i64 0) (.cons (.int .i64 0) .nil))))))),
 oN (.st 5 (.t 12) (.t 112))])
 (.seq
 (.reg false [0, 3, 4, 6, 12, 13, 14] [oQ 114 (.ld (some 5) (.t 12)),
 oX 115 (.call 11 [(.t 114)]),
 oQ 113 (.mov (.t 115)),
 oQ 116 (.ext (.t 113) 0),
 oQ 117 (.ext (.t 113) 1),
 oQ 13 (.mov (.t 116)),
 oQ 14 (.mov (.t 117))])
 (.seq
 (.seq
 (.reg false [0, 3, 4, 6, 12, 13, 14, 15, 16] [oQ 119 (.ld (some 5) (.t 12)),
 oX 120 (.call 12 [(.t 119)]),
 oQ 118 (.mov (.t 120)),
 oQ 121 (.ext (.t 118) 0),
 oQ 122 (.ext (.t 118) 1),
 oQ 15 (.mov (.t 121)),
 oQ 16 (.mov (.t 122))])
 (.seq
 (.reg false [0, 3, 4, 6, 12, 13, 14, 136] [oQ 123 (.mov (.t 13)),
 oQ 124 (.mov (.t 15)),
 oQ 125 (.bin .neq (.t 123) (.t 124)),
 oQ 126 (.mov (.t 125)),
 oG 127 126 false (.mov (.t 14)),
 oG 128 126 false (.mov (.t 16)),
 oG 129 126 false (.bb .neq (.t 127) (.t 128)),
 oQ 130 (.pick (.t 126) (kB true) (.t 129)),
 oQ 131 (.mov (.t 130)),
 oG 132 131 false (.mov (.t 14)),
 oG 133 131 false (.ld (some 5) (.t 12)),
 oH 134 131 false (.call 13 [(.t 133)]),
 oG 135 131 false (.bb .neq (.t 132) (.t 134)),
 oQ 136 (.pick (.t 131) (kB true) (.t 135))])
 (.cond (.t 136)
 (.seq
 (.reg false [2] [oQ 2 (.mov (kB false))])
 .ret)
 .skip)))
 (.seq
 (.seq
 (.reg false [0, 3, 4, 6, 12, 13, 137] [oQ 137 (.mov (.t 14))])
 (.cond (.t 137)
 (.seq
 (.reg false [0, 3, 4, 6, 12, 17, 18, 19, 20] [oQ 139 (.mov (.t 13)),
 oX 140 (.call 14 [(.t 139)]),
 oQ 138 (.mov (.t 140)),
 oQ 141 (.ext (.t 138) 0),
 oQ 142 (.ext (.t 138) 1),
 oQ 143 (.ext (.t 138) 2),
 oQ 144 (.ext (.t 138) 3),
 oQ 17 (.mov (.t 141)),
 oQ 18 (.mov (.t 142)),
 oQ 19 (.mov (.t 143)),
 oQ 20 (.mov (.t 144))])
 (.seq
 (.reg false [0, 3, 4, 6, 170] [oQ 145 (.mov (.t 20)),
 oQ 146 (.un .not (.t 145)),
 oQ 147 (.mov (.t 146)),
 oG 148 147 false (.mov (.t 17)),
 oG 149 147 false (.fa 0 0 (.t 12)),
 oG 150 147 false (.ld none (.t 149)),
 oG 151 147 false (.bin .neq (.t 148) (.t 150)),
 oQ 152 (.pick (.t 147) (kB true) (.t 151)),
 oQ 153 (.mov (.t 152)),
 oG 154 153 false (.mov (.t 18)),
 oG 155 153 false (.fa 1 1 (.t 12)),
 oG 156 153 false (.ld none (.t 155)),
 oG 157 153 false (.bin .neq (.t 154) (.t 156)),
 oQ 158 (.pick (.t 153) (kB true) (.t 157)),
 oQ 159 (.mov (.t 158)),
 oG 160 159 false (.mov (.t 19)),
 oG 161 159 false (.fa 2 2 (.t 12)),
 oG 162 159 false (.ld none (.t 161)),
 oG 163 159 false (.fa 3 3 (.t 12)),
 oG 164 159 false (.ld none (.t 163)),
 oG 165 159 false (.bin .add (.t 162) (.t 164)),
 oG 166 159 false (.fa 4 4 (.t 12)),
 oG 167 159 false (.ld none (.t 166)),
 oG 168 159 false (.bin .add (.t 165) (.t 167)),
 oG 169 159 false (.bin .neq (.t 160) (.t 168)),
 oQ 170 (.pick (.t 159) (kB true) (.t 169))])
 (.cond (.t 170)
 (.seq
 (.reg false [2] [oQ 2 (.mov (kB false))])
 .ret)
 .skip)))
 .skip))
 (.seq
 (.reg false [3, 4, 6, 21] [oQ 171 (.mov (.t 0)),
 oX 172 (.call 15 [(.t 171)]),
 oQ 21 (.mov (.t 172))])
 (.seq
 (.reg false [3, 4, 6, 21, 22, 23, 24, 25] [oQ 174 (.mov (.t 21)),
 oX 175 (.call 14 [(.t 174)]),
 oQ 173 (.mov (.t 175)),
 oQ 176 (.ext (.t 173) 0),
 oQ 177 (.ext (.t 173) 1),
 oQ 178 (.ext (.t 173) 2),
 oQ 179 (.ext (.t 173) 3),
 oQ 22 (.mov (.t 176)),
 oQ 23 (.mov (.t 177)),
 oQ 24 (.mov (.t 178)),
 oQ 25 (.mov (.t 179))])
 (.seq
 (.seq
 (.reg false [3, 4, 6, 22, 23, 24, 25, 26, 27, 28, 29] [oQ 181 (.mov (.t 21)),
 oX 182 (.call 16 [(.t 181)]),
 oQ 180 (.mov (.t 182)),
 oQ 183 (.ext (.t 180) 0),
 oQ 184 (.ext (.t 180) 1),
 oQ 185 (.ext (.t 180) 2),
 oQ 186 (.ext (.t 180) 3),
 oQ 26 (.mov (.t 183)),
 oQ 27 (.mov (.t 184)),
 oQ 28 (.mov (.t 185)),
 oQ 29 (.mov (.t 186))])
 (.seq
 (.reg false [3, 4, 6, 204] [oQ 187 (.mov (.t 22)),
 oQ 188 (.mov (.t 26)),
 oQ 189 (.bin .neq (.t 187) (.t 188)),
 oQ 190 (.mov (.t 189)),
 oG 191 190 false (.mov (.t 23)),
 oG 192 190 false (.mov (.t 27)),
 oG 193 190 false (.bin .neq (.t 191) (.t 192)),
 oQ 194 (.pick (.t 190) (kB true) (.t 193)),
 oQ 195 (.mov (.t 194)),
 oG 196 195 false (.mov (.t 24)),
 oG 197 195 false (.mov (.t 28)),
 oG 198 195 false (.bin .neq (.t 196) (.t 197)),
 oQ 199 (.pick (.t 195) (kB true) (.t 198)),
 oQ 200 (.mov (.t 199)),
 oG 201 200 false (.mov (.t 25)),
 oG 202 200 false (.mov (.t 29)),
 oG 203 200 false (.bb .neq (.t 201) (.t 202)),
 oQ 204 (.pick (.t 200) (kB true) (.t 203))])
 (.cond (.t 204)
 (.seq
 (.reg false [2] [oQ 2 (.mov (kB false))])
 .ret)
 .skip)))
 (.seq
 (.reg false [3, 4, 6, 30, 31] [oQ 206 (.mov (.t 3)),
 oQ 207 (.mov (.t 4)),
 oX 208 (.call 17 [(.t 206), (.t 207)]),
 oQ 205 (.mov (.t 208)),
 oQ 209 (.ext (.t 205) 0),
 oQ 210 (.ext (.t 205) 1),
 oQ 30 (.mov (.t 209)),
 oQ 31 (.mov (.t 210))])
 (.seq
 (.seq
 (.reg false [4, 6, 30, 31, 32, 33] [oQ 212 (.mov (.t 3)),
 oQ 213 (.mov (.t 4)),
 oX 214 (.call 18 [(.t 212), (.t 213)]),
 oQ 211 (.mov (.t 214)),
 oQ 215 (.ext (.t 211) 0),
 oQ 216 (.ext (.t 211) 1),
 oQ 32 (.mov (.t 215)),
 oQ 33 (.mov (.t 216))])
 (.seq
 (.reg false [4, 30, 31, 229] [oQ 217 (.mov (.t 30)),
 oQ 218 (.mov (.t 32)),
 oQ 219 (.bin .neq (.t 217) (.t 218)),
 oQ 220 (.mov (.t 219)),
 oG 221 220 false (.mov (.t 31)),
 oG 222 220 false (.mov (.t 33)),
 oG 223 220 false (.bb .neq (.t 221) (.t 222)),
 oQ 224 (.pick (.t 220) (kB true) (.t 223)),
 oQ 225 (.mov (.t 224)),
 oG 226 225 false (.mov (.t 31)),
 oG 227 225 false (.mov (.t 6)),
 oG 228 225 false (.bb .neq (.t 226) (.t 227)),
 oQ 229 (.pick (.t 225) (kB true) (.t 228))])
 (.cond (.t 229)
 (.seq
 (.reg false [2] [oQ 2 (.mov (kB false))])
 .ret)
 .skip)))
 (.seq
 (.reg false [4, 30, 31, 34] [oQ 34 (.mov (kI 0))])
 (.seq
 (.seq
 (.reg false [4, 30, 31, 34, 35] [oQ 35 (.mov (kI 0))])
 (.block 2
 (.loop
 (.seq
 (.seq
 (.reg false [4, 30, 31, 34, 35, 233] [oQ 230 (.mov (.t 35)),
 oQ 231 (.mov (.t 30)),
 oQ 232 (.len true (.t 231)),
 oQ 233 (.bin .lss (.t 230) (.t 232))])
 (.cond (.t 233)
 .skip
 (.exit 2)))
 (.seq
 (.block 3
 (.seq
 (.reg false [4, 30, 31, 34, 35, 239] [oQ 236 (.mov (.t 30)),
 oQ 237 (.mov (.t 35)),
 oQ 238 (.ix (.t 236) (.t 237)),
 oQ 239 (.bin .eql (.t 238) (.k (.d (.int .u8 10))))])
 (.cond (.t 239)
 (.reg false [4, 30, 31, 34, 35] [oQ 240 (.mov (.t 34)),
 oQ 241 (.bin .add (.t 240) (kI 1)),
 oQ 34 (.mov (.t 241))])
 .skip)))
 (.reg false [4, 30, 31, 34, 35] [oQ 234 (.mov (.t 35)),
 oQ 235 (.bin .add (.t 234) (kI 1)),
 oQ 35 (.mov (.t 235))]))))))
 (.seq
 (.reg false [2] [oQ 242 (.mov (.t 31)),
 oQ 243 (.un .not (.t 242)),
 oQ 244 (.mov (.t 243)),
 oG 245 244 false (.mov (.t 34)),
 oG 246 244 false (.mov (.t 4)),
 oG 247 244 false (.len false (.t 246)),
 oG 248 244 false (.bin .eql (.t 245) (.t 247)),
 oQ 249 (.pick (.t 244) (kB true) (.t 248)),
 oQ 2 (.mov (.t 249))])
 .ret)))))))))))))))))))
theorem c3 : (Go.Proofs.Tryd.f3).body.bind (comp prog.P (1, (Go.Proofs.Tryd.f3).ntmps) lv3) = some m3 := by kernel_rfl
theorem r3 : resOK prog.P (Go.Proofs.Tryd.f3).results.toList = true := by kernel_rfl
def lv4 : List (Nat × List Nat) := [(0, [0]), (1, [2])]
def m4 : MC :=
  (.seq
 (.reg false [0] [oQ 2 (.mov (kB false))])
 (.seq
 (.reg false [2] [oQ 3 (.mov (.t 0)),
 oQ 4 (.len false (.t 3)),
 oQ 5 (.bin .gtr (.t 4) (kI 65536)),
 oQ 2 (.mov (.t 5))])
 .ret))
theorem c4 : (Go.Proofs.Tryd.f4).body.bind (comp prog.P (1, (Go.Proofs.Tryd.f4).ntmps) lv4) = some m4 := by kernel_rfl
theorem r4 : resOK prog.P (Go.Proofs.Tryd.f4).results.toList = true := by kernel_rfl
def lv5 : List (Nat × List Nat) := [(0, [0]), (1, [4, 5]), (2, [2, 3])]
def m5 : MC :=
  (.seq
 (.reg false [0] [oQ 2 (.mov (kI 0)),
 oQ 3 (.mov (.k .nil))])
 (.seq
 (.reg false [4, 5] [oQ 7 (.mov (.t 0)),
 oX 8 (.call 19 [(.t 7)]),
 oQ 6 (.mov (.t 8)),
 oQ 9 (.ext (.t 6) 0),
 oQ 10 (.ext (.t 6) 1),
 oQ 4 (.mov (.t 9)),
 oQ 5 (.mov (.t 10))])
 (.seq
 (.reg false [2, 3] [oQ 11 (.mov (.t 4)),
 oQ 12 (.mov (.t 5)),
 oQ 2 (.mov (.t 11)),
 oQ 3 (.mov (.t 12))])
 .ret)))
theorem c5 : (Go.Proofs.Tryd.f5).body.bind (comp prog.P (1, (Go.Proofs.Tryd.f5).ntmps) lv5) = some m5 := by kernel_rfl
theorem r5 : resOK prog.P (Go.Proofs.Tryd.f5).results.toList = true := by kernel_rfl
def lv6 : List (Nat × List Nat) := [(0, [0, 1]), (1, [4, 5])]
def m6 : MC :=
  (.seq
 (.reg false [0, 1] [oQ 4 (.mov (.k .nil)),
 oQ 5 (.mov (kB false))])
 (.seq
 (.reg false [4, 5] [oQ 6 (.mov (.t 0)),
 oQ 7 (.mov (.t 1)),
 oX 8 (.call 20 [(.t 6), (.t 7)]),
 oQ 9 (.ext (.t 8) 0),
 oQ 10 (.ext (.t 8) 1),
 oQ 4 (.mov (.t 9)),
 oQ 5 (.mov (.t 10))])
 .ret))
theorem c6 : (Go.Proofs.Tryd.f6).body.bind (comp prog.P (2, (Go.Proofs.Tryd.f6).ntmps) lv6) = some m6 := by kernel_rfl
theorem r6 : resOK prog.P (Go.Proofs.Tryd.f6).results.toList = true := by kernel_rfl
def lv7 : List (Nat × List Nat) := [(0, [0, 1]), (1, [0, 1, 9]), (2, [4, 5]), (3, [4, 5])]
def m7 : MC :=
  (.seq
 (.reg false [0, 1] [oQ 4 (.mov (.k .nil)),
 oQ 5 (.mov (kB false))])
 (.seq
 (.seq
 (.reg false [0, 1, 9] [oQ 6 (.mov (.t 0)),
 oQ 7 (.mov (.t 1)),
 oX 8 (.call 21 [(.t 6), (.t 7)]),
 oQ 9 (.un .not (.t 8))])
 (.cond (.t 9)
 (.seq
 (.reg false [4, 5] [oX 10 (.bs 1 0 (.int .i64 0) []),
 oQ 4 (.mov (.t 10)),
 oQ 5 (.mov (kB false))])
 .ret)
 .skip))
 (.seq
 (.reg false [4, 5] [oQ 11 (.mov (.t 0)),
 oQ 12 (.mov (.t 1)),
 oX 13 (.call 22 [(.t 11), (.t 12)]),
 oQ 4 (.mov (.t 13)),
 oQ 5 (.mov (kB true))])
 .ret)))
theorem c7 : (Go.Proofs.Tryd.f7).body.bind (comp prog.P (2, (Go.Proofs.Tryd.f7).ntmps) lv7) = some m7 := by kernel_rfl
theorem r7 : resOK prog.P (Go.Proofs.Tryd.f7).results.toList = true := by kernel_rfl
def lv8 : List (Nat × List Nat) := [(0, [0, 1]), (1, [0, 1, 10]), (2, [4]), (3, [0, 1, 5]), (4, [0, 1, 5, 14]), (5, [0, 1, 5]), (6, [0, 1, 5, 25]), (7, [4]), (8, [4])]
def m8 : MC :=
  (.seq
 (.reg false [0, 1] [oQ 4 (.mov (kB false))])
 (.seq
 (.seq
 (.reg false [0, 1, 10] [oQ 6 (.mov (.t 0)),
 oQ 7 (.len false (.t 6)),
 oQ 8 (.mov (.t 1)),
 oQ 9 (.len false (.t 8)),
 oQ 10 (.bin .neq (.t 7) (.t 9))])
 (.cond (.t 10)
 (.seq
 (.reg false [4] [oQ 4 (.mov (kB false))])
 .ret)
 .skip))
 (.seq
 (.seq
 (.reg false [0, 1, 5] [oQ 5 (.mov (kI 0))])
 (.block 0
 (.loop
 (.seq
 (.seq
 (.reg false [0, 1, 5, 14] [oQ 11 (.mov (.t 5)),
 oQ 12 (.mov (.t 0)),
 oQ 13 (.len false (.t 12)),
 oQ 14 (.bin .lss (.t 11) (.t 13))])
 (.cond (.t 14)
 .skip
 (.exit 0)))
 (.seq
 (.block 1
 (.seq
 (.reg true [0, 1, 5, 25] [oQ 17 (.mov (.t 0)),
 oQ 18 (.mov (.t 5)),
 oQ 19 (.ia 1 (.t 17) (.t 18)),
 oQ 20 (.ld none (.t 19)),
 oQ 21 (.mov (.t 1)),
 oQ 22 (.mov (.t 5)),
 oQ 23 (.ia 1 (.t 21) (.t 22)),
 oQ 24 (.ld none (.t 23)),
 oQ 25 (.bin .neq (.t 20) (.t 24))])
 (.cond (.t 25)
 (.seq
 (.reg false [4] [oQ 4 (.mov (kB false))])
 .ret)
 .skip)))
 (.reg false [0, 1, 5] [oQ 15 (.mov (.t 5)),
 oQ 16 (.bin .add (.t 15) (kI 1)),
 oQ 5 (.mov (.t 16))]))))))
 (.seq
 (.reg false [4] [oQ 4 (.mov (kB true))])
 .ret))))
theorem c8 : (Go.Proofs.Tryd.f8).body.bind (comp prog.P (2, (Go.Proofs.Tryd.f8).ntmps) lv8) = some m8 := by kernel_rfl
theorem r8 : resOK prog.P (Go.Proofs.Tryd.f8).results.toList = true := by kernel_rfl
def lv9 : List (Nat × List Nat) := [(0, [0, 1]), (1, [6]), (2, [4])]
def m9 : MC :=
  (.seq
 (.reg false [0, 1] [oQ 4 (.mov (kB false))])
 (.seq
 (.reg false [6] [oQ 8 (.mov (.t 0)),
 oQ 9 (.mov (.t 1)),
 oX 10 (.call 20 [(.t 8), (.t 9)]),
 oQ 7 (.mov (.t 10)),
 oQ 11 (.ext (.t 7) 0),
 oQ 12 (.ext (.t 7) 1),
 oQ 5 (.mov (.t 11)),
 oQ 6 (.mov (.t 12))])
 (.seq
 (.reg false [4] [oQ 13 (.mov (.t 6)),
 oQ 4 (.mov (.t 13))])
 .ret)))
theorem c9 : (Go.Proofs.Tryd.f9).body.bind (comp prog.P (2, (Go.Proofs.Tryd.f9).ntmps) lv9) = some m9 := by kernel_rfl
theorem r9 : resOK prog.P (Go.Proofs.Tryd.f9).results.toList = true := by kernel_rfl
def lv10 : List (Nat × List Nat) := [(0, [0, 2]), (1, [2])]
def m10 : MC :=
  (.seq
 (.reg false [0, 2] [oX 2 (.alloc (.st (.cons (.int .i64 0) (.cons (.int .i64 0) (.cons (.int .i64 0) (.cons (.int .i64 0) (.cons (.int .i64 0) .nil)))))))])
 (.seq
 (.reg false [2] [oQ 3 (.mov (.t 0)),
 oX 4 (.call 23 [(.t 3)]),
 oN (.st 5 (.t 2) (.t 4))])
 .ret))
theorem c10 : (Go.Proofs.Tryd.f10).body.bind (comp prog.P (1, (Go.Proofs.Tryd.f10).ntmps) lv10) = some m10 := by kernel_rfl
theorem r10 : resOK prog.P (Go.Proofs.Tryd.f10).results.toList = true := by kernel_rfl
def lv11 : List (Nat × List Nat) := [(0, [1]), (1, [1, 6]), (2, [2, 3]), (3, [2, 3])]
def m11 : MC :=
  (.seq
 (.reg false [1] [oX 1 (.box (.t 0)),
 oQ 2 (.mov (.k (.d (.str [])))),
 oQ 3 (.mov (kB false))])
 (.seq
 (.seq
 (.reg false [1, 6] [oQ 4 (.ld (some 5) (.t 1)),
 oX 5 (.call 13 [(.t 4)]),
 oQ 6 (.un .not (.t 5))])
 (.cond (.t 6)
 (.seq
 (.reg false [2, 3] [oQ 2 (.mov (.k (.d (.str [])))),
 oQ 3 (.mov (kB false))])
 .ret)
 .skip))
 (.seq
 (.reg false [2, 3] [oQ 7 (.ld (some 5) (.t 1)),
 oX 8 (.call 24 [(.t 7)]),
 oQ 2 (.mov (.t 8)),
 oQ 3 (.mov (kB true))])
 .ret)))
theorem c11 : (Go.Proofs.Tryd.f11).body.bind (comp prog.P (1, (Go.Proofs.Tryd.f11).ntmps) lv11) = some m11 := by kernel_rfl
theorem r11 : resOK prog.P (Go.Proofs.Tryd.f11).results.toList = true := by kernel_rfl
def lv12 : List (Nat × List Nat) := [(0, [1]), (1, [1, 6]), (2, [2, 3]), (3, [2, 3])]
def m12 : MC :=
  (.seq
 (.reg false [1] [oX 1 (.box (.t 0)),
 oQ 2 (.mov (.k (.d (.str [])))),
 oQ 3 (.mov (kB false))])
 (.seq
 (.seq
 (.reg false [1, 6] [oQ 4 (.ld (some 5) (.t 1)),
 oX 5 (.call 25 [(.t 4)]),
 oQ 6 (.un .not (.t 5))])
 (.cond (.t 6)
 (.seq
 (.reg false [2, 3] [oQ 2 (.mov (.k (.d (.str [])))),
 oQ 3 (.mov (kB false))])
 .ret)
 .skip))
 (.seq
 (.reg false [2, 3] [oQ 7 (.ld (some 5) (.t 1)),
 oX 8 (.call 26 [(.t 7)]),
 oQ 2 (.mov (.t 8)),
 oQ 3 (.mov (kB true))])
 .ret)))
theorem c12 : (Go.Proofs.Tryd.f12).body.bind (comp prog.P (1, (Go.Proofs.Tryd.f12).ntmps) lv12) = some m12 := by kernel_rfl
theorem r12 : resOK prog.P (Go.Proofs.Tryd.f12).results.toList = true := by kernel_rfl
def lv13 : List (Nat × List Nat) := [(0, [1]), (1, [2])]
def m13 : MC :=
  (.seq
 (.reg false [1] [oX 1 (.box (.t 0)),
 oQ 2 (.mov (kB false))])
 (.seq
 (.reg false [2] [oQ 3 (.fa 0 0 (.t 1)),
 oQ 4 (.ld none (.t 3)),
 oX 5 (.call 27 [(.t 4), (kI 1900), (kI 2200)]),
 oQ 6 (.mov (.t 5)),
 oG 7 6 true (.fa 1 1 (.t 1)),
 oG 8 6 true (.ld none (.t 7)),
 oH 9 6 true (.call 28 [(.t 8)]),
 oQ 10 (.pick (.t 6) (.t 9) (kB false)),
 oQ 11 (.mov (.t 10)),
 oG 12 11 true (.fa 2 2 (.t 1)),
 oG 13 11 true (.ld none (.t 12)),
 oH 14 11 true (.call 28 [(.t 13)]),
 oQ 15 (.pick (.t 11) (.t 14) (kB false)),
 oQ 16 (.mov (.t 15)),
 oG 17 16 true (.fa 3 3 (.t 1)),
 oG 18 16 true (.ld none (.t 17)),
 oH 19 16 true (.call 28 [(.t 18)]),
 oQ 20 (.pick (.t 16) (.t 19) (kB false)),
 oQ 21 (.mov (.t 20)),
 oG 22 21 true (.fa 4 4 (.t 1)),
 oG 23 21 true (.ld none (.t 22)),
 oH 24 21 true (.call 28 [(.t 23)]),
 oQ 25 (.pick (.t 21) (.t 24) (kB false)),
 oQ 2 (.mov (.t 25))])
 .ret))
theorem c13 : (Go.Proofs.Tryd.f13).body.bind (comp prog.P (1, (Go.Proofs.Tryd.f13).ntmps) lv13) = some m13 := by kernel_rfl
theorem r13 : resOK prog.P (Go.Proofs.Tryd.f13).results.toList = true := by kernel_rfl
def lv14 : List (Nat × List Nat) := [(0, [0]), (1, [0, 6, 7]), (2, [0, 6, 7, 9]), (3, [0, 6, 7, 9, 11]), (4, [0, 6, 9, 11, 13]), (5, [0, 11, 15]), (6, [0, 15, 16]), (7, [0, 15, 16]), (8, [0, 15]), (9, [15, 69]), (10, [2, 3, 4, 5]), (11, [2, 3, 4, 5])]
def m14 : MC :=
  (.seq
 (.reg false [0] [oQ 2 (.mov (kI 0)),
 oQ 3 (.mov (kI 0)),
 oQ 4 (.mov (kI 0)),
 oQ 5 (.mov (kB false))])
 (.seq
 (.reg false [0, 6, 7] [oQ 18 (.mov (.t 0)),
 oX 19 (.call 29 [(.t 18), (.k (.d (.str [58, 32, 43])))]),
 oQ 17 (.mov (.t 19)),
 oQ 20 (.ext (.t 17) 0),
 oQ 21 (.ext (.t 17) 1),
 oQ 22 (.ext (.t 17) 2),
 oQ 6 (.mov (.t 20)),
 oQ 7 (.mov (.t 21)),
 oQ 8 (.mov (.t 22))])
 (.seq
 (.reg false [0, 6, 7, 9] [oQ 24 (.mov (.t 7)),
 oX 25 (.call 29 [(.t 24), (.k (.d (.str [32, 45])))]),
 oQ 23 (.mov (.t 25)),
 oQ 26 (.ext (.t 23) 0),
 oQ 27 (.ext (.t 23) 1),
 oQ 28 (.ext (.t 23) 2),
 oQ 9 (.mov (.t 26)),
 oQ 7 (.mov (.t 27)),
 oQ 10 (.mov (.t 28))])
 (.seq
 (.reg false [0, 6, 7, 9, 11] [oQ 30 (.mov (.t 7)),
 oX 31 (.call 29 [(.t 30), (.k (.d (.str [32, 40])))]),
 oQ 29 (.mov (.t 31)),
 oQ 32 (.ext (.t 29) 0),
 oQ 33 (.ext (.t 29) 1),
 oQ 34 (.ext (.t 29) 2),
 oQ 11 (.mov (.t 32)),
 oQ 7 (.mov (.t 33)),
 oQ 12 (.mov (.t 34))])
 (.seq
 (.reg false [0, 6, 9, 11, 13] [oQ 36 (.mov (.t 7)),
 oX 37 (.call 30 [(.t 36), (.k (.d (.str [32, 100, 101, 115, 116, 114, 111, 121, 101, 100, 41])))]),
 oQ 35 (.mov (.t 37)),
 oQ 38 (.ext (.t 35) 0),
 oQ 39 (.ext (.t 35) 1),
 oQ 13 (.mov (.t 38)),
 oQ 14 (.mov (.t 39))])
 (.seq
 (.reg false [0, 11, 15] [oQ 40 (.mov (.t 6)),
 oX 41 (.call 31 [(.t 40)]),
 oQ 42 (.mov (.t 9)),
 oX 43 (.call 31 [(.t 42)]),
 oQ 44 (.mov (.t 13)),
 oX 45 (.call 31 [(.t 44)]),
 oQ 46 (.mx true (.t 45) (kI 0)),
 oX 47 (.bld (.cons (.int .i64 0) (.cons (.int .i64 0) (.cons (.int .i64 0) (.cons (.int .i64 0) (.cons (.int .i64 0) .nil))))) [(0, (.t 41)), (1, (.t 43)), (3, (.t 46))]),
 oX 15 (.alloc (.st (.cons (.int .i64 0) (.cons (.int .i64 0) (.cons (.int .i64 0) (.cons (.int .i64 0) (.cons (.int .i64 0) .nil))))))),
 oN (.st 5 (.t 15) (.t 47))])
 (.seq
 (.reg true [0, 15, 16] [oQ 48 (.mov (.t 11)),
 oQ 49 (.callP 31 [(.t 48)]),
 oQ 50 (.fa 3 3 (.t 15)),
 oQ 51 (.ld none (.t 50)),
 oQ 52 (.bin .sub (.t 49) (.t 51)),
 oQ 16 (.mov (.t 52))])
 (.seq
 (.reg false [0, 15, 16] [oQ 53 (.mov (.t 16)),
 oQ 54 (.mx false (.t 53) (kI 9999)),
 oQ 55 (.fa 2 2 (.t 15)),
 oN (.st 1 (.t 55) (.t 54))])
 (.seq
 (.reg false [0, 15] [oQ 56 (.mov (.t 16)),
 oQ 57 (.fa 2 2 (.t 15)),
 oQ 58 (.ld none (.t 57)),
 oQ 59 (.bin .sub (.t 56) (.t 58)),
 oQ 60 (.fa 4 4 (.t 15)),
 oN (.st 1 (.t 60) (.t 59))])
 (.seq
 (.seq
 (.reg false [15, 69] [oQ 61 (.ld (some 5) (.t 15)),
 oX 62 (.call 13 [(.t 61)]),
 oQ 63 (.un .not (.t 62)),
 oQ 64 (.mov (.t 63)),
 oG 65 64 false (.ld (some 5) (.t 15)),
 oH 66 64 false (.call 24 [(.t 65)]),
 oG 67 64 false (.mov (.t 0)),
 oG 68 64 false (.bin .neq (.t 66) (.t 67)),
 oQ 69 (.pick (.t 64) (kB true) (.t 68))])
 (.cond (.t 69)
 (.seq
 (.reg false [2, 3, 4, 5] [oQ 2 (.mov (kI 0)),
 oQ 3 (.mov (kI 0)),
 oQ 4 (.mov (kI 0)),
 oQ 5 (.mov (kB false))])
 .ret)
 .skip))
 (.seq
 (.reg true [2, 3, 4, 5] [oQ 70 (.fa 0 0 (.t 15)),
 oQ 71 (.ld none (.t 70)),
 oQ 72 (.fa 1 1 (.t 15)),
 oQ 73 (.ld none (.t 72)),
 oQ 74 (.ld (some 5) (.t 15)),
 oQ 75 (.callP 32 [(.t 74)]),
 oQ 2 (.mov (.t 71)),
 oQ 3 (.mov (.t 73)),
 oQ 4 (.mov (.t 75)),
 oQ 5 (.mov (kB true))])
 .ret)))))))))))
theorem c14 : (Go.Proofs.Tryd.f14).body.bind (comp prog.P (1, (Go.Proofs.Tryd.f14).ntmps) lv14) = some m14 := by kernel_rfl
theorem r14 : resOK prog.P (Go.Proofs.Tryd.f14).results.toList = true := by kernel_rfl
def lv15 : List (Nat × List Nat) := [(0, [0]), (1, [3]), (2, [3, 4]), (3, [3, 4, 19]), (4, [4]), (5, [2])]
def m15 : MC :=
  (.seq
 (.reg false [0] [oQ 2 (.mov (.k (.d (.str []))))])
 (.seq
 (.reg false [3] [oQ 6 (.mov (.t 0)),
 oX 7 (.bld (.cons (.sl true 1 .nil) (.cons (.int .i64 0) (.cons (.int .u64 0) .nil))) [(0, (.t 6))]),
 oX 8 (.box (.t 7)),
 oQ 3 (.mov (.t 8))])
 (.seq
 (.reg false [3, 4] [oQ 10 (.mov (.t 3)),
 oQ 11 (.mov (.t 3)),
 oX 12 (.bs 1 3 (.int .i64 0) [(0, (kI 1900)), (1, (kI 2000)), (2, (kI 2200))]),
 oX 13 (.call 34 [(.t 11), (.t 12)]),
 oX 14 (.call 33 [(.t 10), (.t 13)]),
 oX 15 (.call 12 [(.t 14)]),
 oQ 9 (.mov (.t 15)),
 oQ 16 (.ext (.t 9) 0),
 oQ 17 (.ext (.t 9) 1),
 oQ 4 (.mov (.t 16)),
 oQ 5 (.mov (.t 17))])
 (.seq
 (.seq
 (.reg false [3, 4, 19] [oQ 18 (.mov (.t 3)),
 oX 19 (.call 35 [(.t 18), (kI 3)])])
 (.cond (.t 19)
 (.reg false [4] [oQ 20 (.mov (.t 3)),
 oQ 21 (.mov (.t 4)),
 oX 22 (.call 36 [(.t 20), (.t 21), (.k (.d (.str [48, 32, 45, 43, 58, 49])))]),
 oQ 4 (.mov (.t 22))])
 .skip))
 (.seq
 (.reg false [2] [oQ 23 (.mov (.t 4)),
 oQ 2 (.mov (.t 23))])
 .ret)))))
theorem c15 : (Go.Proofs.Tryd.f15).body.bind (comp prog.P (1, (Go.Proofs.Tryd.f15).ntmps) lv15) = some m15 := by kernel_rfl
theorem r15 : resOK prog.P (Go.Proofs.Tryd.f15).results.toList = true := by kernel_rfl
def lv16 : List (Nat × List Nat) := [(0, [0]), (1, [0, 6]), (2, [0, 6, 40]), (3, [2, 3, 4, 5]), (4, [0, 6, 7]), (5, [0, 6, 7]), (6, [0, 6, 7]), (7, [0, 6, 7, 8, 9]), (8, [0, 6, 7, 8, 9, 82]), (9, [0, 7, 8, 9]), (10, [0, 7, 8, 104]), (11, [2, 3, 4, 5]), (12, [0, 7, 8]), (13, [0, 7, 8]), (14, [7, 8, 127]), (15, [2, 3, 4, 5]), (16, [2, 3, 4, 5]), (1000005, [1, 14, 1, 0, 1, 1, 1, 2, 1, 3, 1, 4, 1, 5, 1, 6, 1, 7, 1, 8, 2, 9, 1, 10, 1, 11, 1, 12, 1, 13, 2, 14, 0])]
def m16 : MC :=
  (.seq
 (.reg false [0] [oQ 2 (.mov (kI 0)),
 oQ 3 (.mov (kI 0)),
 oQ 4 (.mov (kI 0)),
 oQ 5 (.mov (kB false))])
 (.seq
 (.reg false [0, 6] [oQ 10 (.mov (.t 0)),
 oX 11 (.call 37 [(.t 10), (.k (.d (.int .u8 32)))]),
 oQ 6 (.mov (.t 11))])
 (.seq
 (.seq
 (.reg false [0, 6, 40] [oQ 12 (.mov (.t 0)),
 oQ 13 (.len true (.t 12)),
 oQ 14 (.bin .gtr (.t 13) (kI 60)),
 oQ 15 (.mov (.t 14)),
 oG 16 15 false (.mov (.t 6)),
 oG 17 15 false (.len false (.t 16)),
 oG 18 15 false (.bin .lss (.t 17) (kI 3)),
 oQ 19 (.pick (.t 15) (kB true) (.t 18)),
 oQ 20 (.mov (.t 19)),
 oG 21 20 false (.mov (.t 6)),
 oG 22 20 false (.ia 1 (.t 21) (kI 0)),
 oG 23 20 false (.ld none (.t 22)),
 oG 24 20 false (.len true (.t 23)),
 oG 25 20 false (.bin .lss (.t 24) (kI 2)),
 oQ 26 (.pick (.t 20) (kB true) (.t 25)),
 oQ 27 (.mov (.t 26)),
 oG 28 27 false (.mov (.t 6)),
 oG 29 27 false (.ia 1 (.t 28) (kI 1)),
 oG 30 27 false (.ld none (.t 29)),
 oG 31 27 false (.len true (.t 30)),
 oG 32 27 false (.bin .lss (.t 31) (kI 2)),
 oQ 33 (.pick (.t 27) (kB true) (.t 32)),
 oQ 34 (.mov (.t 33)),
 oG 35 34 false (.mov (.t 6)),
 oG 36 34 false (.ia 1 (.t 35) (kI 2)),
 oG 37 34 false (.ld none (.t 36)),
 oG 38 34 false (.len true (.t 37)),
 oG 39 34 false (.bin .lss (.t 38) (kI 2)),
 oQ 40 (.pick (.t 34) (kB true) (.t 39))])
 (.cond (.t 40)
 (.seq
 (.reg false [2, 3, 4, 5] [oQ 2 (.mov (kI 0)),
 oQ 3 (.mov (kI 0)),
 oQ 4 (.mov (kI 0)),
 oQ 5 (.mov (kB false))])
 .ret)
 .skip))
 (.seq
 (.reg false [0, 6, 7] [oX 41 (.bld (.cons (.int .i64 0) (.cons (.int .i64 0) (.cons (.int .i64 0) (.cons (.int .i64 0) (.cons (.int .i64 0) .nil))))) []),
 oX 7 (.alloc (.st (.cons (.int .i64 0) (.cons (.int .i64 0) (.cons (.int .i64 0) (.cons (.int .i64 0) (.cons (.int .i64 0) .nil))))))),
 oN (.st 5 (.t 7) (.t 41))])
 (.seq
 (.any [14] [0, 6, 7] (.q 0 (oQ 43 (.mov (.t 6))) (.q 1 (oQ 44 (.ia 1 (.t 43) (kI 0))) (.q 2 (oQ 45 (.ld none (.t 44))) (.q 3 (oQ 46 (.mov (.t 6))) (.q 4 (oQ 47 (.ia 1 (.t 46) (kI 0))) (.q 5 (oQ 48 (.ld none (.t 47))) (.q 6 (oQ 49 (.len true (.t 48))) (.q 7 (oQ 50 (.bin .sub (.t 49) (kI 1))) (.q 8 (oQ 51 (.sls (.t 45) none (some (.t 50)))) (.e 9 (oX 52 (.call 38 [(.t 51)])) (.q 10 (oQ 42 (.mov (.t 52))) (.q 11 (oQ 53 (.ext (.t 42) 0)) (.q 12 (oQ 54 (.ext (.t 42) 1)) (.q 13 (oQ 55 (.fa 0 0 (.t 7))) (.e 14 (oN (.st 1 (.t 55) (.t 53))) .done))))))))))))))))
 (.seq
 (.reg false [0, 6, 7] [oQ 57 (.mov (.t 6)),
 oQ 58 (.ia 1 (.t 57) (kI 1)),
 oQ 59 (.ld none (.t 58)),
 oQ 60 (.sls (.t 59) (some (kI 1)) none),
 oX 61 (.call 38 [(.t 60)]),
 oQ 56 (.mov (.t 61)),
 oQ 62 (.ext (.t 56) 0),
 oQ 63 (.ext (.t 56) 1),
 oQ 64 (.fa 1 1 (.t 7)),
 oN (.st 1 (.t 64) (.t 62))])
 (.seq
 (.reg false [0, 6, 7, 8, 9] [oQ 66 (.mov (.t 6)),
 oQ 67 (.ia 1 (.t 66) (kI 2)),
 oQ 68 (.ld none (.t 67)),
 oQ 69 (.sls (.t 68) (some (kI 1)) none),
 oX 70 (.call 38 [(.t 69)]),
 oQ 65 (.mov (.t 70)),
 oQ 71 (.ext (.t 65) 0),
 oQ 72 (.ext (.t 65) 1),
 oQ 8 (.mov (.t 71)),
 oQ 9 (.mov (.t 72))])
 (.seq
 (.seq
 (.reg false [0, 6, 7, 8, 9, 82] [oQ 73 (.mov (.t 6)),
 oQ 74 (.len false (.t 73)),
 oQ 75 (.bin .gtr (.t 74) (kI 3)),
 oQ 76 (.mov (.t 75)),
 oG 77 76 true (.mov (.t 6)),
 oG 78 76 true (.ia 1 (.t 77) (kI 3)),
 oG 79 76 true (.ld none (.t 78)),
 oG 80 76 true (.len true (.t 79)),
 oG 81 76 true (.bin .gtr (.t 80) (kI 1)),
 oQ 82 (.pick (.t 76) (.t 81) (kB false))])
 (.cond (.t 82)
 (.reg false [0, 7, 8, 9] [oQ 84 (.mov (.t 6)),
 oQ 85 (.ia 1 (.t 84) (kI 3)),
 oQ 86 (.ld none (.t 85)),
 oQ 87 (.sls (.t 86) (some (kI 1)) none),
 oX 88 (.call 38 [(.t 87)]),
 oQ 83 (.mov (.t 88)),
 oQ 89 (.ext (.t 83) 0),
 oQ 90 (.ext (.t 83) 1),
 oQ 91 (.fa 3 3 (.t 7)),
 oN (.st 1 (.t 91) (.t 89))])
 .skip))
 (.seq
 (.seq
 (.reg false [0, 7, 8, 104] [oQ 92 (.mov (.t 9)),
 oQ 93 (.un .not (.t 92)),
 oQ 94 (.mov (.t 93)),
 oG 95 94 false (.fa 3 3 (.t 7)),
 oG 96 94 false (.ld none (.t 95)),
 oG 97 94 false (.bin .lss (.t 96) (kI 0)),
 oQ 98 (.pick (.t 94) (kB true) (.t 97)),
 oQ 99 (.mov (.t 98)),
 oG 100 99 false (.fa 3 3 (.t 7)),
 oG 101 99 false (.ld none (.t 100)),
 oG 102 99 false (.mov (.t 8)),
 oG 103 99 false (.bin .gtr (.t 101) (.t 102)),
 oQ 104 (.pick (.t 99) (kB true) (.t 103))])
 (.cond (.t 104)
 (.seq
 (.reg false [2, 3, 4, 5] [oQ 2 (.mov (kI 0)),
 oQ 3 (.mov (kI 0)),
 oQ 4 (.mov (kI 0)),
 oQ 5 (.mov (kB false))])
 .ret)
 .skip))
 (.seq
 (.reg false [0, 7, 8] [oQ 105 (.mov (.t 8)),
 oQ 106 (.fa 3 3 (.t 7)),
 oQ 107 (.ld none (.t 106)),
 oQ 108 (.bin .sub (.t 105) (.t 107)),
 oX 109 (.call 39 [(kI 9999), (.t 108)]),
 oQ 110 (.fa 2 2 (.t 7)),
 oN (.st 1 (.t 110) (.t 109))])
 (.seq
 (.reg false [0, 7, 8] [oQ 111 (.mov (.t 8)),
 oQ 112 (.fa 3 3 (.t 7)),
 oQ 113 (.ld none (.t 112)),
 oQ 114 (.bin .sub (.t 111) (.t 113)),
 oQ 115 (.fa 2 2 (.t 7)),
 oQ 116 (.ld none (.t 115)),
 oQ 117 (.bin .sub (.t 114) (.t 116)),
 oQ 118 (.fa 4 4 (.t 7)),
 oN (.st 1 (.t 118) (.t 117))])
 (.seq
 (.seq
 (.reg false [7, 8, 127] [oQ 119 (.ld (some 5) (.t 7)),
 oX 120 (.call 25 [(.t 119)]),
 oQ 121 (.un .not (.t 120)),
 oQ 122 (.mov (.t 121)),
 oG 123 122 false (.ld (some 5) (.t 7)),
 oH 124 122 false (.call 26 [(.t 123)]),
 oG 125 122 false (.mov (.t 0)),
 oG 126 122 false (.bin .neq (.t 124) (.t 125)),
 oQ 127 (.pick (.t 122) (kB true) (.t 126))])
 (.cond (.t 127)
 (.seq
 (.reg false [2, 3, 4, 5] [oQ 2 (.mov (kI 0)),
 oQ 3 (.mov (kI 0)),
 oQ 4 (.mov (kI 0)),
 oQ 5 (.mov (kB false))])
 .ret)
 .skip))
 (.seq
 (.reg true [2, 3, 4, 5] [oQ 128 (.fa 0 0 (.t 7)),
 oQ 129 (.ld none (.t 128)),
 oQ 130 (.fa 1 1 (.t 7)),
 oQ 131 (.ld none (.t 130)),
 oQ 132 (.mov (.t 8)),
 oQ 2 (.mov (.t 129)),
 oQ 3 (.mov (.t 131)),
 oQ 4 (.mov (.t 132)),
 oQ 5 (.mov (kB true))])
 .ret)))))))))))))
theorem c16 : (Go.Proofs.Tryd.f16).body.bind (comp prog.P (1, (Go.Proofs.Tryd.f16).ntmps) lv16) = some m16 := by kernel_rfl
theorem r16 : resOK prog.P (Go.Proofs.Tryd.f16).results.toList = true := by kernel_rfl
def lv17 : List (Nat × List Nat) := [(0, [0, 1]), (1, [0, 1, 6, 7]), (2, [0, 1, 6, 18]), (3, [4, 5]), (4, [1, 6, 8]), (5, [6, 8, 22, 23, 24]), (6, [6, 8, 22, 23, 24, 25]), (7, [6, 8, 9, 10, 22, 23, 24]), (8, [6, 8, 22, 23, 24]), (9, [6, 8, 22, 23, 24]), (10, [4, 5])]
def m17 : MC :=
  (.seq
 (.reg false [0, 1] [oQ 4 (.mov (.k (.d (.str [])))),
 oQ 5 (.mov (kB false))])
 (.seq
 (.reg false [0, 1, 6, 7] [oQ 12 (.mov (.t 0)),
 oQ 13 (.mov (.t 1)),
 oX 14 (.call 20 [(.t 12), (.t 13)]),
 oQ 11 (.mov (.t 14)),
 oQ 15 (.ext (.t 11) 0),
 oQ 16 (.ext (.t 11) 1),
 oQ 6 (.mov (.t 15)),
 oQ 7 (.mov (.t 16))])
 (.seq
 (.seq
 (.reg false [0, 1, 6, 18] [oQ 17 (.mov (.t 7)),
 oQ 18 (.un .not (.t 17))])
 (.cond (.t 18)
 (.seq
 (.reg false [4, 5] [oQ 4 (.mov (.k (.d (.str [])))),
 oQ 5 (.mov (kB false))])
 .ret)
 .skip))
 (.seq
 (.reg false [1, 6, 8] [oQ 19 (.mov (.t 0)),
 oX 20 (.call 40 [(.t 19)]),
 oQ 21 (.bin .add (.k (.d (.str [115, 116, 111, 99, 107, 32]))) (.t 20)),
 oQ 8 (.mov (.t 21))])
 (.seq
 (.seq
 (.reg false [6, 8, 22, 23, 24] [oQ 22 (.mov (.t 1)),
 oQ 23 (.len false (.t 22)),
 oQ 24 (.mov (kI 0))])
 (.block 0
 (.loop
 (.seq
 (.reg false [6, 8, 22, 23, 24, 25] [oQ 25 (.bin .lss (.t 24) (.t 23))])
 (.seq
 (.cond (.t 25)
 .skip
 (.exit 0))
 (.seq
 (.block 1
 (.seq
 (.reg false [6, 8, 9, 10, 22, 23, 24] [oQ 26 (.mov (.t 24)),
 oQ 27 (.ia 5 (.t 22) (.t 24)),
 oQ 28 (.ld (some 5) (.t 27)),
 oX 10 (.alloc (.st (.cons (.int .i64 0) (.cons (.int .i64 0) (.cons (.int .i64 0) (.cons (.int .i64 0) (.cons (.int .i64 0) .nil))))))),
 oQ 9 (.mov (.t 26)),
 oN (.st 5 (.t 10) (.t 28))])
 (.reg true [6, 8, 22, 23, 24] [oQ 29 (.mov (.t 8)),
 oQ 30 (.ld (some 5) (.t 10)),
 oQ 31 (.callP 24 [(.t 30)]),
 oQ 32 (.bin .add (.k (.d (.str [10]))) (.t 31)),
 oQ 33 (.bin .add (.t 32) (.k (.d (.str [32, 61, 32])))),
 oQ 34 (.mov (.t 6)),
 oQ 35 (.mov (.t 9)),
 oQ 36 (.ia 1 (.t 34) (.t 35)),
 oQ 37 (.ld none (.t 36)),
 oQ 38 (.callP 40 [(.t 37)]),
 oQ 39 (.bin .add (.t 33) (.t 38)),
 oQ 40 (.bin .add (.t 29) (.t 39)),
 oQ 8 (.mov (.t 40))])))
 (.reg false [6, 8, 22, 23, 24] [oQ 41 (.bin .add (.t 24) (kI 1)),
 oQ 24 (.mov (.t 41))])))))))
 (.seq
 (.reg false [4, 5] [oQ 42 (.mov (.t 8)),
 oQ 4 (.mov (.t 42)),
 oQ 5 (.mov (kB true))])
 .ret))))))
theorem c17 : (Go.Proofs.Tryd.f17).body.bind (comp prog.P (2, (Go.Proofs.Tryd.f17).ntmps) lv17) = some m17 := by kernel_rfl
theorem r17 : resOK prog.P (Go.Proofs.Tryd.f17).results.toList = true := by kernel_rfl
def lv18 : List (Nat × List Nat) := [(0, [0, 1]), (1, [0, 1, 12]), (2, [4, 5]), (3, [0, 1, 6]), (4, [1, 6, 7]), (5, [1, 6, 7, 8]), (6, [1, 6, 7, 8, 22]), (7, [1, 6, 7, 8]), (8, [1, 6, 7, 8]), (9, [4, 5])]
def m18 : MC :=
  (.seq
 (.reg false [0, 1] [oQ 4 (.mov (.k (.d (.str [])))),
 oQ 5 (.mov (kB false))])
 (.seq
 (.seq
 (.reg false [0, 1, 12] [oQ 9 (.mov (.t 0)),
 oQ 10 (.mov (.t 1)),
 oX 11 (.call 21 [(.t 9), (.t 10)]),
 oQ 12 (.un .not (.t 11))])
 (.cond (.t 12)
 (.seq
 (.reg false [4, 5] [oQ 4 (.mov (.k (.d (.str [])))),
 oQ 5 (.mov (kB false))])
 .ret)
 .skip))
 (.seq
 (.reg false [0, 1, 6] [oQ 13 (.mov (.t 0)),
 oX 14 (.call 41 [(.t 13)]),
 oQ 15 (.bin .add (.k (.d (.str [115, 116, 111, 99, 107, 32]))) (.t 14)),
 oQ 6 (.mov (.t 15))])
 (.seq
 (.reg false [1, 6, 7] [oQ 16 (.mov (.t 0)),
 oQ 17 (.mov (.t 1)),
 oX 18 (.call 22 [(.t 16), (.t 17)]),
 oQ 7 (.mov (.t 18))])
 (.seq
 (.seq
 (.reg false [1, 6, 7, 8] [oQ 8 (.mov (kI 0))])
 (.block 0
 (.loop
 (.seq
 (.seq
 (.reg false [1, 6, 7, 8, 22] [oQ 19 (.mov (.t 8)),
 oQ 20 (.mov (.t 1)),
 oQ 21 (.len false (.t 20)),
 oQ 22 (.bin .lss (.t 19) (.t 21))])
 (.cond (.t 22)
 .skip
 (.exit 0)))
 (.seq
 (.block 1
 (.reg true [1, 6, 7, 8] [oQ 25 (.mov (.t 6)),
 oQ 26 (.bin .add (.t 25) (.k (.d (.str [10])))),
 oQ 27 (.mov (.t 1)),
 oQ 28 (.mov (.t 8)),
 oQ 29 (.ia 5 (.t 27) (.t 28)),
 oQ 30 (.ld (some 5) (.t 29)),
 oQ 31 (.callP 26 [(.t 30)]),
 oQ 32 (.bin .add (.t 26) (.t 31)),
 oQ 33 (.bin .add (.t 32) (.k (.d (.str [32, 61, 32])))),
 oQ 34 (.mov (.t 7)),
 oQ 35 (.mov (.t 8)),
 oQ 36 (.ia 1 (.t 34) (.t 35)),
 oQ 37 (.ld none (.t 36)),
 oQ 38 (.callP 41 [(.t 37)]),
 oQ 39 (.bin .add (.t 33) (.t 38)),
 oQ 6 (.mov (.t 39))]))
 (.reg false [1, 6, 7, 8] [oQ 23 (.mov (.t 8)),
 oQ 24 (.bin .add (.t 23) (kI 1)),
 oQ 8 (.mov (.t 24))]))))))
 (.seq
 (.reg false [4, 5] [oQ 40 (.mov (.t 6)),
 oQ 4 (.mov (.t 40)),
 oQ 5 (.mov (kB true))])
 .ret))))))
theorem c18 : (Go.Proofs.Tryd.f18).body.bind (comp prog.P (2, (Go.Proofs.Tryd.f18).ntmps) lv18) = some m18 := by kernel_rfl
theorem r18 : resOK prog.P (Go.Proofs.Tryd.f18).results.toList = true := by kernel_rfl
def lv19 : List (Nat × List Nat) := [(0, [0]), (1, [4]), (2, [5, 6]), (3, [2, 3])]
def m19 : MC :=
  (.seq
 (.reg false [0] [oQ 2 (.mov (kI 0)),
 oQ 3 (.mov (.k .nil))])
 (.seq
 (.reg false [4] [oQ 7 (.mov (.t 0)),
 oX 8 (.bld (.cons (.sl true 1 .nil) (.cons (.int .i64 0) (.cons (.int .u64 0) .nil))) [(0, (.t 7))]),
 oX 9 (.box (.t 8)),
 oQ 4 (.mov (.t 9))])
 (.seq
 (.reg false [5, 6] [oQ 11 (.mov (.t 4)),
 oX 12 (.call 42 [(.t 11)]),
 oQ 10 (.mov (.t 12)),
 oQ 13 (.ext (.t 10) 0),
 oQ 14 (.ext (.t 10) 1),
 oQ 5 (.mov (.t 13)),
 oQ 6 (.mov (.t 14))])
 (.seq
 (.reg false [2, 3] [oQ 15 (.mov (.t 5)),
 oQ 16 (.mov (.t 6)),
 oQ 2 (.mov (.t 15)),
 oQ 3 (.mov (.t 16))])
 .ret))))
theorem c19 : (Go.Proofs.Tryd.f19).body.bind (comp prog.P (1, (Go.Proofs.Tryd.f19).ntmps) lv19) = some m19 := by kernel_rfl
theorem r19 : resOK prog.P (Go.Proofs.Tryd.f19).results.toList = true := by kernel_rfl
def lv20 : List (Nat × List Nat) := [(0, [0, 1]), (1, [0, 1, 16]), (2, [4, 5]), (3, [0, 1, 6]), (4, [0, 1, 6, 17, 18, 19]), (5, [0, 1, 6, 17, 18, 19, 20]), (6, [0, 1, 6, 7, 8, 17, 18, 19]), (7, [0, 1, 6, 8, 17, 18, 19, 41]), (8, [4, 5]), (9, [0, 1, 6, 17, 18, 19]), (10, [0, 1, 6, 17, 18, 19, 50]), (11, [4, 5]), (12, [0, 1, 6, 17, 18, 19]), (13, [0, 1, 6, 17, 18, 19]), (14, [4, 5])]
def m20 : MC :=
  (.seq
 (.reg false [0, 1] [oQ 4 (.mov (.k .nil)),
 oQ 5 (.mov (kB false))])
 (.seq
 (.seq
 (.reg false [0, 1, 16] [oQ 9 (.mov (.t 0)),
 oX 10 (.call 28 [(.t 9)]),
 oQ 11 (.un .not (.t 10)),
 oQ 12 (.mov (.t 11)),
 oG 13 12 false (.mov (.t 1)),
 oG 14 12 false (.len false (.t 13)),
 oG 15 12 false (.bin .gtr (.t 14) (kI 10)),
 oQ 16 (.pick (.t 12) (kB true) (.t 15))])
 (.cond (.t 16)
 (.seq
 (.reg false [4, 5] [oQ 4 (.mov (.k .nil)),
 oQ 5 (.mov (kB false))])
 .ret)
 .skip))
 (.seq
 (.reg false [0, 1, 6] [oQ 6 (.mov (.k .nil))])
 (.seq
 (.seq
 (.reg false [0, 1, 6, 17, 18, 19] [oQ 17 (.mov (.t 1)),
 oQ 18 (.len false (.t 17)),
 oQ 19 (.mov (kI 0))])
 (.block 0
 (.loop
 (.seq
 (.reg false [0, 1, 6, 17, 18, 19, 20] [oQ 20 (.bin .lss (.t 19) (.t 18))])
 (.seq
 (.cond (.t 20)
 .skip
 (.exit 0))
 (.seq
 (.block 1
 (.seq
 (.reg false [0, 1, 6, 7, 8, 17, 18, 19] [oQ 21 (.mov (.t 19)),
 oQ 22 (.ia 5 (.t 17) (.t 19)),
 oQ 23 (.ld (some 5) (.t 22)),
 oX 8 (.alloc (.st (.cons (.int .i64 0) (.cons (.int .i64 0) (.cons (.int .i64 0) (.cons (.int .i64 0) (.cons (.int .i64 0) .nil))))))),
 oQ 7 (.mov (.t 21)),
 oN (.st 5 (.t 8) (.t 23))])
 (.seq
 (.seq
 (.reg true [0, 1, 6, 8, 17, 18, 19, 41] [oQ 24 (.ld (some 5) (.t 8)),
 oQ 25 (.callP 13 [(.t 24)]),
 oQ 26 (.un .not (.t 25)),
 oQ 27 (.mov (.t 26)),
 oG 28 27 false (.mov (.t 7)),
 oG 29 27 false (.bin .gtr (.t 28) (kI 0)),
 oG 30 27 false (.mov (.t 29)),
 oG 31 30 true (.mov (.t 1)),
 oG 32 30 true (.mov (.t 7)),
 oG 33 30 true (.bin .sub (.t 32) (kI 1)),
 oG 34 30 true (.ia 5 (.t 31) (.t 33)),
 oG 35 30 true (.fa 0 0 (.t 34)),
 oG 36 30 true (.ld none (.t 35)),
 oG 37 30 true (.fa 0 0 (.t 8)),
 oG 38 30 true (.ld none (.t 37)),
 oG 39 30 true (.bin .geq (.t 36) (.t 38)),
 oG 40 27 false (.pick (.t 30) (.t 39) (kB false)),
 oQ 41 (.pick (.t 27) (kB true) (.t 40))])
 (.cond (.t 41)
 (.seq
 (.reg false [4, 5] [oQ 4 (.mov (.k .nil)),
 oQ 5 (.mov (kB false))])
 .ret)
 .skip))
 (.seq
 (.reg true [0, 1, 6, 17, 18, 19] [oQ 42 (.mov (.t 0)),
 oQ 43 (.fa 1 1 (.t 8)),
 oQ 44 (.ld none (.t 43)),
 oQ 45 (.ld (some 5) (.t 8)),
 oQ 46 (.callP 32 [(.t 45)]),
 oQ 47 (.bin .sub (.t 44) (.t 46)),
 oQ 48 (.bin .add (.t 42) (.t 47)),
 oQ 0 (.mov (.t 48))])
 (.seq
 (.seq
 (.reg false [0, 1, 6, 17, 18, 19, 50] [oQ 49 (.mov (.t 0)),
 oQ 50 (.bin .lss (.t 49) (kI 0))])
 (.cond (.t 50)
 (.seq
 (.reg false [4, 5] [oQ 4 (.mov (.k .nil)),
 oQ 5 (.mov (kB false))])
 .ret)
 .skip))
 (.reg false [0, 1, 6, 17, 18, 19] [oQ 51 (.mov (.t 6)),
 oQ 52 (.mov (.t 0)),
 oX 53 (.bs 1 1 (.int .i64 0) [(0, (.t 52))]),
 oX 54 (.app 1 8 (.t 51) (.t 53)),
 oQ 6 (.mov (.t 54))]))))))
 (.reg false [0, 1, 6, 17, 18, 19] [oQ 55 (.bin .add (.t 19) (kI 1)),
 oQ 19 (.mov (.t 55))])))))))
 (.seq
 (.reg false [4, 5] [oQ 56 (.mov (.t 6)),
 oQ 4 (.mov (.t 56)),
 oQ 5 (.mov (kB true))])
 .ret)))))
theorem c20 : (Go.Proofs.Tryd.f20).body.bind (comp prog.P (0, (Go.Proofs.Tryd.f20).ntmps) lv20) = some m20 := by kernel_rfl
theorem r20 : resOK prog.P (Go.Proofs.Tryd.f20).results.toList = true := by kernel_rfl
def lv21 : List (Nat × List Nat) := [(0, [0, 1]), (1, [0, 1, 5]), (2, [0, 1, 5, 6]), (3, [0, 1, 5, 6, 11]), (4, [0, 1, 5, 6]), (5, [0, 1, 5, 6, 37]), (6, [4]), (7, [0, 1, 5, 6]), (8, [0, 1, 5, 6, 52]), (9, [4]), (10, [4])]
def m21 : MC :=
  (.seq
 (.reg false [0, 1] [oQ 4 (.mov (kB false))])
 (.seq
 (.reg false [0, 1, 5] [oQ 7 (.mov (.t 0)),
 oQ 5 (.mov (.t 7))])
 (.seq
 (.seq
 (.reg false [0, 1, 5, 6] [oQ 6 (.mov (kI 0))])
 (.block 0
 (.loop
 (.seq
 (.seq
 (.reg false [0, 1, 5, 6, 11] [oQ 8 (.mov (.t 6)),
 oQ 9 (.mov (.t 1)),
 oQ 10 (.len false (.t 9)),
 oQ 11 (.bin .lss (.t 8) (.t 10))])
 (.cond (.t 11)
 .skip
 (.exit 0)))
 (.seq
 (.block 1
 (.seq
 (.seq
 (.reg true [0, 1, 5, 6, 37] [oQ 14 (.mov (.t 1)),
 oQ 15 (.mov (.t 6)),
 oQ 16 (.ia 5 (.t 14) (.t 15)),
 oQ 17 (.ld (some 5) (.t 16)),
 oQ 18 (.callP 25 [(.t 17)]),
 oQ 19 (.un .not (.t 18)),
 oQ 20 (.mov (.t 19)),
 oG 21 20 false (.mov (.t 6)),
 oG 22 20 false (.bin .gtr (.t 21) (kI 0)),
 oG 23 20 false (.mov (.t 22)),
 oG 24 23 true (.mov (.t 1)),
 oG 25 23 true (.mov (.t 6)),
 oG 26 23 true (.bin .sub (.t 25) (kI 1)),
 oG 27 23 true (.ia 5 (.t 24) (.t 26)),
 oG 28 23 true (.fa 0 0 (.t 27)),
 oG 29 23 true (.ld none (.t 28)),
 oG 30 23 true (.mov (.t 1)),
 oG 31 23 true (.mov (.t 6)),
 oG 32 23 true (.ia 5 (.t 30) (.t 31)),
 oG 33 23 true (.fa 0 0 (.t 32)),
 oG 34 23 true (.ld none (.t 33)),
 oG 35 23 true (.bin .geq (.t 29) (.t 34)),
 oG 36 20 false (.pick (.t 23) (.t 35) (kB false)),
 oQ 37 (.pick (.t 20) (kB true) (.t 36))])
 (.cond (.t 37)
 (.seq
 (.reg false [4] [oQ 4 (.mov (kB false))])
 .ret)
 .skip))
 (.seq
 (.reg true [0, 1, 5, 6] [oQ 38 (.mov (.t 5)),
 oQ 39 (.mov (.t 1)),
 oQ 40 (.mov (.t 6)),
 oQ 41 (.ia 5 (.t 39) (.t 40)),
 oQ 42 (.fa 1 1 (.t 41)),
 oQ 43 (.ld none (.t 42)),
 oQ 44 (.bin .add (.t 38) (.t 43)),
 oQ 45 (.mov (.t 1)),
 oQ 46 (.mov (.t 6)),
 oQ 47 (.ia 5 (.t 45) (.t 46)),
 oQ 48 (.ld (some 5) (.t 47)),
 oQ 49 (.callP 43 [(.t 48)]),
 oQ 50 (.bin .sub (.t 44) (.t 49)),
 oQ 5 (.mov (.t 50))])
 (.seq
 (.reg false [0, 1, 5, 6, 52] [oQ 51 (.mov (.t 5)),
 oQ 52 (.bin .lss (.t 51) (kI 0))])
 (.cond (.t 52)
 (.seq
 (.reg false [4] [oQ 4 (.mov (kB false))])
 .ret)
 .skip)))))
 (.reg false [0, 1, 5, 6] [oQ 12 (.mov (.t 6)),
 oQ 13 (.bin .add (.t 12) (kI 1)),
 oQ 6 (.mov (.t 13))]))))))
 (.seq
 (.reg false [4] [oQ 53 (.mov (.t 0)),
 oX 54 (.call 44 [(.t 53)]),
 oQ 55 (.mov (.t 54)),
 oG 56 55 true (.mov (.t 1)),
 oG 57 55 true (.len false (.t 56)),
 oG 58 55 true (.bin .leq (.t 57) (kI 10)),
 oQ 59 (.pick (.t 55) (.t 58) (kB false)),
 oQ 4 (.mov (.t 59))])
 .ret))))
theorem c21 : (Go.Proofs.Tryd.f21).body.bind (comp prog.P (2, (Go.Proofs.Tryd.f21).ntmps) lv21) = some m21 := by kernel_rfl
theorem r21 : resOK prog.P (Go.Proofs.Tryd.f21).results.toList = true := by kernel_rfl
def lv22 : List (Nat × List Nat) := [(0, [0, 1]), (1, [0, 1, 5]), (2, [0, 1, 5, 6]), (3, [0, 1, 5, 6, 11]), (4, [0, 1, 5, 6]), (5, [0, 1, 5, 6]), (6, [0, 1, 5, 6]), (7, [4])]
def m22 : MC :=
  (.seq
 (.reg false [0, 1] [oQ 4 (.mov (.k .nil))])
 (.seq
 (.reg false [0, 1, 5] [oX 7 (.bs 1 0 (.int .i64 0) []),
 oQ 5 (.mov (.t 7))])
 (.seq
 (.seq
 (.reg false [0, 1, 5, 6] [oQ 6 (.mov (kI 0))])
 (.block 0
 (.loop
 (.seq
 (.seq
 (.reg false [0, 1, 5, 6, 11] [oQ 8 (.mov (.t 6)),
 oQ 9 (.mov (.t 1)),
 oQ 10 (.len false (.t 9)),
 oQ 11 (.bin .lss (.t 8) (.t 10))])
 (.cond (.t 11)
 .skip
 (.exit 0)))
 (.seq
 (.block 1
 (.seq
 (.reg true [0, 1, 5, 6] [oQ 14 (.mov (.t 0)),
 oQ 15 (.mov (.t 1)),
 oQ 16 (.mov (.t 6)),
 oQ 17 (.ia 5 (.t 15) (.t 16)),
 oQ 18 (.fa 1 1 (.t 17)),
 oQ 19 (.ld none (.t 18)),
 oQ 20 (.bin .add (.t 14) (.t 19)),
 oQ 21 (.mov (.t 1)),
 oQ 22 (.mov (.t 6)),
 oQ 23 (.ia 5 (.t 21) (.t 22)),
 oQ 24 (.ld (some 5) (.t 23)),
 oQ 25 (.callP 43 [(.t 24)]),
 oQ 26 (.bin .sub (.t 20) (.t 25)),
 oQ 0 (.mov (.t 26))])
 (.reg false [0, 1, 5, 6] [oQ 27 (.mov (.t 5)),
 oQ 28 (.mov (.t 0)),
 oX 29 (.bs 1 1 (.int .i64 0) [(0, (.t 28))]),
 oX 30 (.app 1 8 (.t 27) (.t 29)),
 oQ 5 (.mov (.t 30))])))
 (.reg false [0, 1, 5, 6] [oQ 12 (.mov (.t 6)),
 oQ 13 (.bin .add (.t 12) (kI 1)),
 oQ 6 (.mov (.t 13))]))))))
 (.seq
 (.reg false [4] [oQ 31 (.mov (.t 5)),
 oQ 4 (.mov (.t 31))])
 .ret))))
theorem c22 : (Go.Proofs.Tryd.f22).body.bind (comp prog.P (0, (Go.Proofs.Tryd.f22).ntmps) lv22) = some m22 := by kernel_rfl
theorem r22 : resOK prog.P (Go.Proofs.Tryd.f22).results.toList = true := by kernel_rfl
def lv23 : List (Nat × List Nat) := [(0, [0, 2]), (1, [2, 3]), (2, [2])]
def m23 : MC :=
  (.seq
 (.reg false [0, 2] [oX 2 (.alloc (.st (.cons (.int .i64 0) (.cons (.int .i64 0) (.cons (.int .i64 0) (.cons (.int .i64 0) (.cons (.int .i64 0) .nil)))))))])
 (.seq
 (.reg false [2, 3] [oQ 4 (.mov (.t 0)),
 oX 5 (.bld (.cons (.sl true 1 .nil) (.cons (.int .i64 0) (.cons (.int .u64 0) .nil))) [(0, (.t 4))]),
 oX 6 (.box (.t 5)),
 oQ 3 (.mov (.t 6))])
 (.seq
 (.reg false [2] [oQ 7 (.mov (.t 3)),
 oQ 8 (.mov (.t 3)),
 oX 9 (.bs 1 3 (.int .i64 0) [(0, (kI 1900)), (1, (kI 2000)), (2, (kI 2200))]),
 oX 10 (.call 34 [(.t 8), (.t 9)]),
 oX 11 (.call 33 [(.t 7), (.t 10)]),
 oN (.st 5 (.t 2) (.t 11))])
 .ret)))
theorem c23 : (Go.Proofs.Tryd.f23).body.bind (comp prog.P (1, (Go.Proofs.Tryd.f23).ntmps) lv23) = some m23 := by kernel_rfl
theorem r23 : resOK prog.P (Go.Proofs.Tryd.f23).results.toList = true := by kernel_rfl
def lv24 : List (Nat × List Nat) := [(0, [1]), (1, [1, 3]), (2, [1, 3, 19]), (3, [3]), (4, [2])]
def m24 : MC :=
  (.seq
 (.reg false [1] [oX 1 (.box (.t 0)),
 oQ 2 (.mov (.k (.d (.str []))))])
 (.seq
 (.reg true [1, 3] [oQ 4 (.fa 0 0 (.t 1)),
 oQ 5 (.ld none (.t 4)),
 oQ 6 (.callP 40 [(.t 5)]),
 oQ 7 (.bin .add (.t 6) (.k (.d (.str [58, 32, 43])))),
 oQ 8 (.fa 1 1 (.t 1)),
 oQ 9 (.ld none (.t 8)),
 oQ 10 (.callP 40 [(.t 9)]),
 oQ 11 (.bin .add (.t 7) (.t 10)),
 oQ 12 (.bin .add (.t 11) (.k (.d (.str [32, 45])))),
 oQ 13 (.ld (some 5) (.t 1)),
 oQ 14 (.callP 32 [(.t 13)]),
 oQ 15 (.callP 40 [(.t 14)]),
 oQ 16 (.bin .add (.t 12) (.t 15)),
 oQ 3 (.mov (.t 16))])
 (.seq
 (.seq
 (.reg false [1, 3, 19] [oQ 17 (.fa 3 3 (.t 1)),
 oQ 18 (.ld none (.t 17)),
 oQ 19 (.bin .gtr (.t 18) (kI 0))])
 (.cond (.t 19)
 (.reg false [3] [oQ 20 (.mov (.t 3)),
 oQ 21 (.fa 3 3 (.t 1)),
 oQ 22 (.ld none (.t 21)),
 oX 23 (.call 40 [(.t 22)]),
 oQ 24 (.bin .add (.k (.d (.str [32, 40]))) (.t 23)),
 oQ 25 (.bin .add (.t 24) (.k (.d (.str [32, 100, 101, 115, 116, 114, 111, 121, 101, 100, 41])))),
 oQ 26 (.bin .add (.t 20) (.t 25)),
 oQ 3 (.mov (.t 26))])
 .skip))
 (.seq
 (.reg false [2] [oQ 27 (.mov (.t 3)),
 oQ 2 (.mov (.t 27))])
 .ret))))
theorem c24 : (Go.Proofs.Tryd.f24).body.bind (comp prog.P (1, (Go.Proofs.Tryd.f24).ntmps) lv24) = some m24 := by kernel_rfl
theorem r24 : resOK prog.P (Go.Proofs.Tryd.f24).results.toList = true := by kernel_rfl
def lv25 : List (Nat × List Nat) := [(0, [1]), (1, [2])]
def m25 : MC :=
  (.seq
 (.reg false [1] [oX 1 (.box (.t 0)),
 oQ 2 (.mov (kB false))])
 (.seq
 (.reg false [2] [oQ 3 (.fa 0 0 (.t 1)),
 oQ 4 (.ld none (.t 3)),
 oX 5 (.call 45 [(.t 4), (kI 1900), (kI 2200)]),
 oQ 6 (.mov (.t 5)),
 oG 7 6 true (.fa 1 1 (.t 1)),
 oG 8 6 true (.ld none (.t 7)),
 oH 9 6 true (.call 44 [(.t 8)]),
 oQ 10 (.pick (.t 6) (.t 9) (kB false)),
 oQ 11 (.mov (.t 10)),
 oG 12 11 true (.fa 2 2 (.t 1)),
 oG 13 11 true (.ld none (.t 12)),
 oH 14 11 true (.call 44 [(.t 13)]),
 oQ 15 (.pick (.t 11) (.t 14) (kB false)),
 oQ 16 (.mov (.t 15)),
 oG 17 16 true (.fa 3 3 (.t 1)),
 oG 18 16 true (.ld none (.t 17)),
 oH 19 16 true (.call 44 [(.t 18)]),
 oQ 20 (.pick (.t 16) (.t 19) (kB false)),
 oQ 21 (.mov (.t 20)),
 oG 22 21 true (.fa 4 4 (.t 1)),
 oG 23 21 true (.ld none (.t 22)),
 oH 24 21 true (.call 44 [(.t 23)]),
 oQ 25 (.pick (.t 21) (.t 24) (kB false)),
 oQ 2 (.mov (.t 25))])
 .ret))
theorem c25 : (Go.Proofs.Tryd.f25).body.bind (comp prog.P (1, (Go.Proofs.Tryd.f25).ntmps) lv25) = some m25 := by kernel_rfl
theorem r25 : resOK prog.P (Go.Proofs.Tryd.f25).results.toList = true := by kernel_rfl
def lv26 : List (Nat × List Nat) := [(0, [1]), (1, [1, 3]), (2, [1, 3, 19]), (3, [3]), (4, [2])]
def m26 : MC :=
  (.seq
 (.reg false [1] [oX 1 (.box (.t 0)),
 oQ 2 (.mov (.k (.d (.str []))))])
 (.seq
 (.reg true [1, 3] [oQ 4 (.fa 0 0 (.t 1)),
 oQ 5 (.ld none (.t 4)),
 oQ 6 (.callP 41 [(.t 5)]),
 oQ 7 (.bin .add (.t 6) (.k (.d (.str [58, 32, 43])))),
 oQ 8 (.fa 1 1 (.t 1)),
 oQ 9 (.ld none (.t 8)),
 oQ 10 (.callP 41 [(.t 9)]),
 oQ 11 (.bin .add (.t 7) (.t 10)),
 oQ 12 (.bin .add (.t 11) (.k (.d (.str [32, 45])))),
 oQ 13 (.ld (some 5) (.t 1)),
 oQ 14 (.callP 43 [(.t 13)]),
 oQ 15 (.callP 41 [(.t 14)]),
 oQ 16 (.bin .add (.t 12) (.t 15)),
 oQ 3 (.mov (.t 16))])
 (.seq
 (.seq
 (.reg false [1, 3, 19] [oQ 17 (.fa 3 3 (.t 1)),
 oQ 18 (.ld none (.t 17)),
 oQ 19 (.bin .gtr (.t 18) (kI 0))])
 (.cond (.t 19)
 (.reg false [3] [oQ 20 (.mov (.t 3)),
 oQ 21 (.bin .add (.t 20) (.k (.d (.str [32, 40])))),
 oQ 22 (.fa 3 3 (.t 1)),
 oQ 23 (.ld none (.t 22)),
 oX 24 (.call 41 [(.t 23)]),
 oQ 25 (.bin .add (.t 21) (.t 24)),
 oQ 26 (.bin .add (.t 25) (.k (.d (.str [32, 100, 101, 115, 116, 114, 111, 121, 101, 100, 41])))),
 oQ 3 (.mov (.t 26))])
 .skip))
 (.seq
 (.reg false [2] [oQ 27 (.mov (.t 3)),
 oQ 2 (.mov (.t 27))])
 .ret))))
theorem c26 : (Go.Proofs.Tryd.f26).body.bind (comp prog.P (1, (Go.Proofs.Tryd.f26).ntmps) lv26) = some m26 := by kernel_rfl
theorem r26 : resOK prog.P (Go.Proofs.Tryd.f26).results.toList = true := by kernel_rfl
def lv27 : List (Nat × List Nat) := [(0, [0, 1, 2]), (1, [6])]
def m27 : MC :=
  (.seq
 (.reg false [0, 1, 2] [oQ 6 (.mov (kB false))])
 (.seq
 (.reg false [6] [oQ 7 (.mov (.t 1)),
 oQ 8 (.mov (.t 0)),
 oQ 9 (.bin .leq (.t 7) (.t 8)),
 oQ 10 (.mov (.t 9)),
 oG 11 10 true (.mov (.t 0)),
 oG 12 10 true (.mov (.t 2)),
 oG 13 10 true (.bin .leq (.t 11) (.t 12)),
 oQ 14 (.pick (.t 10) (.t 13) (kB false)),
 oQ 6 (.mov (.t 14))])
 .ret))
theorem c27 : (Go.Proofs.Tryd.f27).body.bind (comp prog.P (3, (Go.Proofs.Tryd.f27).ntmps) lv27) = some m27 := by kernel_rfl
theorem r27 : resOK prog.P (Go.Proofs.Tryd.f27).results.toList = true := by kernel_rfl
def lv28 : List (Nat × List Nat) := [(0, [0]), (1, [2])]
def m28 : MC :=
  (.seq
 (.reg false [0] [oQ 2 (.mov (kB false))])
 (.seq
 (.reg false [2] [oQ 3 (.mov (.t 0)),
 oX 4 (.call 27 [(.t 3), (kI 0), (kI 9999)]),
 oQ 2 (.mov (.t 4))])
 .ret))
theorem c28 : (Go.Proofs.Tryd.f28).body.bind (comp prog.P (1, (Go.Proofs.Tryd.f28).ntmps) lv28) = some m28 := by kernel_rfl
theorem r28 : resOK prog.P (Go.Proofs.Tryd.f28).results.toList = true := by kernel_rfl
def lv30 : List (Nat × List Nat) := [(0, [0, 1]), (1, [4, 5])]
def m30 : MC :=
  (.seq
 (.reg false [0, 1] [oQ 4 (.mov (.k (.d (.str [])))),
 oQ 5 (.mov (kB false))])
 (.seq
 (.reg false [4, 5] [oQ 6 (.mov (.t 0)),
 oQ 7 (.mov (.t 1)),
 oX 8 (.call 47 [(.t 6), (.t 7)]),
 oQ 9 (.ext (.t 8) 0),
 oQ 10 (.ext (.t 8) 1),
 oQ 4 (.mov (.t 9)),
 oQ 5 (.mov (.t 10))])
 .ret))
theorem c30 : (Go.Proofs.Tryd.f30).body.bind (comp prog.P (2, (Go.Proofs.Tryd.f30).ntmps) lv30) = some m30 := by kernel_rfl
theorem r30 : resOK prog.P (Go.Proofs.Tryd.f30).results.toList = true := by kernel_rfl
def lv31 : List (Nat × List Nat) := [(0, [0]), (1, [0, 16]), (2, [2]), (3, [0, 3]), (4, [0, 3, 18, 19]), (5, [0, 3, 18, 19, 20]), (6, [0, 3, 4, 18, 19]), (7, [0, 3, 18, 19]), (8, [0, 3, 18, 19]), (9, [2])]
def m31 : MC :=
  (.seq
 (.reg false [0] [oQ 2 (.mov (kI 0))])
 (.seq
 (.seq
 (.reg false [0, 16] [oQ 5 (.mov (.t 0)),
 oQ 6 (.bin .eql (.t 5) (.k (.d (.str [])))),
 oQ 7 (.mov (.t 6)),
 oG 8 7 false (.mov (.t 0)),
 oG 9 7 false (.len true (.t 8)),
 oG 10 7 false (.bin .gtr (.t 9) (kI 7)),
 oQ 11 (.pick (.t 7) (kB true) (.t 10)),
 oQ 12 (.mov (.t 11)),
 oG 13 12 false (.mov (.t 0)),
 oH 14 12 false (.call 48 [(.t 13), (.k (.d (.str [48, 49, 50, 51, 52, 53, 54, 55, 56, 57])))]),
 oG 15 12 false (.bin .neq (.t 14) (.k (.d (.str [])))),
 oQ 16 (.pick (.t 12) (kB true) (.t 15))])
 (.cond (.t 16)
 (.seq
 (.reg false [2] [oQ 2 (.mov (.k (.d (.int .i64 (-1)))))])
 .ret)
 .skip))
 (.seq
 (.reg false [0, 3] [oQ 3 (.mov (kI 0))])
 (.seq
 (.seq
 (.reg false [0, 3, 18, 19] [oQ 17 (.mov (.t 0)),
 oQ 18 (.len true (.t 17)),
 oQ 19 (.mov (kI 0))])
 (.block 0
 (.loop
 (.seq
 (.reg false [0, 3, 18, 19, 20] [oQ 20 (.bin .lss (.t 19) (.t 18))])
 (.seq
 (.cond (.t 20)
 .skip
 (.exit 0))
 (.seq
 (.block 1
 (.seq
 (.reg false [0, 3, 4, 18, 19] [oQ 21 (.mov (.t 19)),
 oQ 4 (.mov (.t 21))])
 (.reg false [0, 3, 18, 19] [oQ 22 (.mov (.t 3)),
 oQ 23 (.bin .mul (.t 22) (kI 10)),
 oQ 24 (.mov (.t 0)),
 oQ 25 (.mov (.t 4)),
 oQ 26 (.ix (.t 24) (.t 25)),
 oQ 27 (.bin .sub (.t 26) (.k (.d (.int .u8 48)))),
 oQ 28 (.conv .i64 (.t 27)),
 oQ 29 (.bin .add (.t 23) (.t 28)),
 oQ 3 (.mov (.t 29))])))
 (.reg false [0, 3, 18, 19] [oQ 30 (.bin .add (.t 19) (kI 1)),
 oQ 19 (.mov (.t 30))])))))))
 (.seq
 (.reg false [2] [oQ 31 (.mov (.t 3)),
 oQ 2 (.mov (.t 31))])
 .ret)))))
theorem c31 : (Go.Proofs.Tryd.f31).body.bind (comp prog.P (1, (Go.Proofs.Tryd.f31).ntmps) lv31) = some m31 := by kernel_rfl
theorem r31 : resOK prog.P (Go.Proofs.Tryd.f31).results.toList = true := by kernel_rfl
def lv32 : List (Nat × List Nat) := [(0, [1]), (1, [2])]
def m32 : MC :=
  (.seq
 (.reg false [1] [oX 1 (.box (.t 0)),
 oQ 2 (.mov (kI 0))])
 (.seq
 (.reg false [2] [oQ 3 (.fa 2 2 (.t 1)),
 oQ 4 (.ld none (.t 3)),
 oQ 5 (.fa 3 3 (.t 1)),
 oQ 6 (.ld none (.t 5)),
 oQ 7 (.bin .add (.t 4) (.t 6)),
 oQ 8 (.fa 4 4 (.t 1)),
 oQ 9 (.ld none (.t 8)),
 oQ 10 (.bin .add (.t 7) (.t 9)),
 oQ 2 (.mov (.t 10))])
 .ret))
theorem c32 : (Go.Proofs.Tryd.f32).body.bind (comp prog.P (1, (Go.Proofs.Tryd.f32).ntmps) lv32) = some m32 := by kernel_rfl
theorem r32 : resOK prog.P (Go.Proofs.Tryd.f32).results.toList = true := by kernel_rfl
def lv33 : List (Nat × List Nat) := [(0, [0, 1, 4]), (1, [0, 4, 5]), (2, [0, 4, 5, 21]), (3, [0, 4, 5, 21, 22]), (4, [0, 4, 5]), (5, [0, 4, 5, 21, 28]), (6, [0, 4, 5]), (7, [0, 4, 5, 21, 34]), (8, [0, 4, 5]), (9, [0, 4, 5, 21, 40]), (10, [0, 4, 5]), (11, [0, 4, 5, 46]), (12, [0, 4, 5]), (13, [0, 4])]
def m33 : MC :=
  (.seq
 (.reg false [0, 1, 4] [oX 4 (.alloc (.st (.cons (.int .i64 0) (.cons (.int .i64 0) (.cons (.int .i64 0) (.cons (.int .i64 0) (.cons (.int .i64 0) .nil)))))))])
 (.seq
 (.reg false [0, 4, 5] [oQ 6 (.mov (.t 1)),
 oQ 7 (.mov (.t 0)),
 oX 8 (.bs 1 4 (.int .i64 0) [(0, (kI 0)), (1, (kI 40)), (2, (kI 100)), (3, (kI 9999))]),
 oX 9 (.call 34 [(.t 7), (.t 8)]),
 oQ 10 (.mov (.t 0)),
 oX 11 (.bs 1 3 (.int .i64 0) [(0, (kI 0)), (1, (kI 3)), (2, (kI 10))]),
 oX 12 (.call 34 [(.t 10), (.t 11)]),
 oQ 13 (.mov (.t 0)),
 oX 14 (.bs 1 4 (.int .i64 0) [(0, (kI 0)), (1, (kI 0)), (2, (kI 5)), (3, (kI 30))]),
 oX 15 (.call 34 [(.t 13), (.t 14)]),
 oQ 16 (.mov (.t 0)),
 oX 17 (.bs 1 2 (.int .i64 0) [(0, (kI 0)), (1, (kI 7))]),
 oX 18 (.call 34 [(.t 16), (.t 17)]),
 oX 19 (.bld (.cons (.int .i64 0) (.cons (.int .i64 0) (.cons (.int .i64 0) (.cons (.int .i64 0) (.cons (.int .i64 0) .nil))))) [(0, (.t 6)), (1, (.t 9)), (2, (.t 12)), (3, (.t 15)), (4, (.t 18))]),
 oX 5 (.alloc (.st (.cons (.int .i64 0) (.cons (.int .i64 0) (.cons (.int .i64 0) (.cons (.int .i64 0) (.cons (.int .i64 0) .nil))))))),
 oN (.st 5 (.t 5) (.t 19))])
 (.seq
 (.seq
 (.reg false [0, 4, 5, 21] [oQ 20 (.mov (.t 0)),
 oX 21 (.call 49 [(.t 20), (kI 80)])])
 (.block 0
 (.seq
 (.reg false [0, 4, 5, 21, 22] [oQ 23 (.bin .eql (.t 21) (kI 0)),
 oQ 22 (.mov (.t 23))])
 (.cond (.t 22)
 (.reg false [0, 4, 5] [oQ 24 (.mov (.t 0)),
 oX 25 (.bs 1 2 (.int .i64 0) [(0, (kI 1899)), (1, (kI 2201))]),
 oX 26 (.call 34 [(.t 24), (.t 25)]),
 oQ 27 (.fa 0 0 (.t 5)),
 oN (.st 1 (.t 27) (.t 26))])
 (.seq
 (.reg false [0, 4, 5, 21, 28] [oQ 29 (.bin .eql (.t 21) (kI 1)),
 oQ 28 (.mov (.t 29))])
 (.cond (.t 28)
 (.reg false [0, 4, 5] [oQ 30 (.mov (.t 0)),
 oX 31 (.bs 1 2 (.int .i64 0) [(0, (.k (.d (.int .i64 (-1))))), (1, (kI 10000))]),
 oX 32 (.call 34 [(.t 30), (.t 31)]),
 oQ 33 (.fa 1 1 (.t 5)),
 oN (.st 1 (.t 33) (.t 32))])
 (.seq
 (.reg false [0, 4, 5, 21, 34] [oQ 35 (.bin .eql (.t 21) (kI 2)),
 oQ 34 (.mov (.t 35))])
 (.cond (.t 34)
 (.reg false [0, 4, 5] [oQ 36 (.mov (.t 0)),
 oX 37 (.bs 1 3 (.int .i64 0) [(0, (.k (.d (.int .i64 (-1))))), (1, (kI 9999)), (2, (kI 10000))]),
 oX 38 (.call 34 [(.t 36), (.t 37)]),
 oQ 39 (.fa 2 2 (.t 5)),
 oN (.st 1 (.t 39) (.t 38))])
 (.seq
 (.reg false [0, 4, 5, 21, 40] [oQ 41 (.bin .eql (.t 21) (kI 3)),
 oQ 40 (.mov (.t 41))])
 (.cond (.t 40)
 (.reg false [0, 4, 5] [oQ 42 (.mov (.t 0)),
 oX 43 (.bs 1 3 (.int .i64 0) [(0, (.k (.d (.int .i64 (-1))))), (1, (kI 9999)), (2, (kI 10000))]),
 oX 44 (.call 34 [(.t 42), (.t 43)]),
 oQ 45 (.fa 3 3 (.t 5)),
 oN (.st 1 (.t 45) (.t 44))])
 (.seq
 (.reg false [0, 4, 5, 46] [oQ 47 (.bin .eql (.t 21) (kI 4)),
 oQ 46 (.mov (.t 47))])
 (.cond (.t 46)
 (.reg false [0, 4, 5] [oQ 48 (.mov (.t 0)),
 oX 49 (.bs 1 3 (.int .i64 0) [(0, (.k (.d (.int .i64 (-1))))), (1, (kI 9999)), (2, (kI 10000))]),
 oX 50 (.call 34 [(.t 48), (.t 49)]),
 oQ 51 (.fa 4 4 (.t 5)),
 oN (.st 1 (.t 51) (.t 50))])
 .skip))))))))))))
 (.seq
 (.reg false [0, 4] [oQ 52 (.ld (some 5) (.t 5)),
 oN (.st 5 (.t 4) (.t 52))])
 .ret))))
theorem c33 : (Go.Proofs.Tryd.f33).body.bind (comp prog.P (2, (Go.Proofs.Tryd.f33).ntmps) lv33) = some m33 := by kernel_rfl
theorem r33 : resOK prog.P (Go.Proofs.Tryd.f33).results.toList = true := by kernel_rfl
def lv34 : List (Nat × List Nat) := [(0, [0, 1]), (1, [0, 4])]
def m34 : MC :=
  (.seq
 (.reg false [0, 1] [oQ 4 (.mov (kI 0))])
 (.seq
 (.reg false [0, 4] [oQ 5 (.mov (.t 1)),
 oQ 6 (.mov (.t 0)),
 oQ 7 (.mov (.t 1)),
 oQ 8 (.len false (.t 7)),
 oX 9 (.call 49 [(.t 6), (.t 8)]),
 oQ 10 (.ia 1 (.t 5) (.t 9)),
 oQ 11 (.ld none (.t 10)),
 oQ 4 (.mov (.t 11))])
 .ret))
theorem c34 : (Go.Proofs.Tryd.f34).body.bind (comp prog.P (2, (Go.Proofs.Tryd.f34).ntmps) lv34) = some m34 := by kernel_rfl
theorem r34 : resOK prog.P (Go.Proofs.Tryd.f34).results.toList = true := by kernel_rfl
def lv35 : List (Nat × List Nat) := [(0, [0, 1]), (1, [0, 4])]
def m35 : MC :=
  (.seq
 (.reg false [0, 1] [oQ 4 (.mov (kB false))])
 (.seq
 (.reg false [0, 4] [oQ 5 (.mov (.t 0)),
 oQ 6 (.mov (.t 1)),
 oX 7 (.call 49 [(.t 5), (.t 6)]),
 oQ 8 (.bin .eql (.t 7) (kI 0)),
 oQ 4 (.mov (.t 8))])
 .ret))
theorem c35 : (Go.Proofs.Tryd.f35).body.bind (comp prog.P (2, (Go.Proofs.Tryd.f35).ntmps) lv35) = some m35 := by kernel_rfl
theorem r35 : resOK prog.P (Go.Proofs.Tryd.f35).results.toList = true := by kernel_rfl
end Go.Pe.Tryd
