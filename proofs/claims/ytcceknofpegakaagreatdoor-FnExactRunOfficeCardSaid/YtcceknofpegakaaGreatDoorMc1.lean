/-
The compact code of the functions that the law reaches, printed by gen.py, each with the proof that the machine's code is compiled to it.
-/
import Derived.Test.YtcceknofpegakaaGreatDoorPeC
import Derived.Lib.ItoaNum
import Derived.Lib.LaidTab
import Derived.Test.YtcceknofpegakaaGreatDoorProg
import Derived.KernelRfl
set_option maxRecDepth 100000
namespace Go.Pe.Tryz
open Go.Pe
theorem tab_stab {P : Program} {n : String} {k : IntKind} {zs : List Int} {g : Nat} (hg : P.globalNamed n = some g) (w w' : World) (_ : w.heap.size ≤ w'.heap.size) (hk : ∀ b, b < w.heap.size → w'.heap[b]? = w.heap[b]?) (h : Go.Lib.TabIs P w n k zs) : Go.Lib.TabIs P w' n k zs := by
  unfold Go.Lib.TabIs World.var? at h ⊢
  rw [hg] at h ⊢
  simp only [Option.bind_some] at h ⊢
  by_cases hb : g < w.heap.size
  · rw [hk g hb]; exact h
  · rw [Array.getElem?_eq_none (by omega)] at h
    simp at h
theorem cell_stab (g : Nat) (w w' : World) (hk : ∀ b, b < w.heap.size → w'.heap[b]? = w.heap[b]?) (h : ∃ m, w.cell? ⟨g, 0, none⟩ = some (.int .i64 m)) : ∃ m, w'.cell? ⟨g, 0, none⟩ = some (.int .i64 m) := by
  obtain ⟨m, h⟩ := h
  by_cases hb : g < w.heap.size
  · refine ⟨m, ?_⟩
    unfold World.cell? at h ⊢
    rw [hk g hb]; exact h
  · have hn : w.heap[g]? = none := Array.getElem?_eq_none (by omega)
    simp [World.cell?, hn] at h
noncomputable def prog : PG := ⟨Go.Proofs.Tryz.prog, fun w => (Go.Lib.TabIs Go.Proofs.Tryz.prog w "internal/strconv.uint64pow10" .u64 Go.Lib.pow10Tab) ∧ (∃ m, w.cell? ⟨0, 0, none⟩ = some (.int .i64 m)), fun w w' hs hk h => ⟨tab_stab (show Go.Proofs.Tryz.prog.globalNamed "internal/strconv.uint64pow10" = some 5 by kernel_rfl) w w' hs hk h.1, cell_stab 0 w w' hk h.2⟩⟩
theorem tabOf {w : World} (h : prog.F w) : Go.Lib.TabIs Go.Proofs.Tryz.prog w "internal/strconv.uint64pow10" .u64 Go.Lib.pow10Tab := h.1
theorem maxOf {w : World} (h : prog.F w) : ∃ m, w.cell? ⟨0, 0, none⟩ = some (.int .i64 m) := h.2
theorem sz35 : sizeOfT prog.P 35 = some 5 := by kernel_rfl
theorem sz62 : sizeOfT prog.P 62 = some 4 := by kernel_rfl
theorem sz140 : sizeOfT prog.P 140 = some 4 := by kernel_rfl
def lv8 : List (Nat × List Nat) := [(0, [1, 2]), (1, [1, 2, 5]), (2, [1, 2, 5]), (3, [1, 2, 5, 24]), (4, [4]), (5, [1, 2, 5]), (6, [1, 2, 29]), (7, [4]), (8, [1, 2, 6, 7, 8]), (9, [1, 2, 6, 7, 8, 9]), (10, [1, 2, 6, 7, 8, 9, 10]), (11, [1, 2, 6, 7, 8, 9, 10, 11, 12, 13]), (12, [1, 2, 6, 7, 8, 9, 10, 11, 12, 13, 63]), (13, [4]), (14, [1, 2, 6, 7, 8, 9, 10, 11, 12, 13, 68]), (15, [4]), (16, [1, 2, 6, 7, 8, 9, 10, 11, 12, 13, 73]), (17, [4]), (18, [1, 2, 6, 7, 8, 9, 10, 11, 12, 13, 14]), (19, [1, 2, 6, 7, 8, 10, 11, 12, 13, 14]), (20, [1, 2, 6, 7, 8, 11, 12, 13, 14]), (21, [1, 2, 6, 7, 8, 11, 97]), (22, [4]), (23, [1, 2, 6, 7, 8, 11, 15]), (24, [1, 2, 6, 7, 8, 11, 15]), (25, [1, 2, 6, 7, 8, 11, 15, 16]), (26, [1, 2, 6, 7, 8, 11, 15, 16]), (27, [1, 2, 6, 7, 8, 11, 15, 16, 105]), (28, [4]), (29, [1, 2, 6, 7, 8, 11, 15, 108]), (30, [4]), (31, [6, 7, 8, 11, 15, 17, 18, 19]), (32, [11, 15, 131]), (33, [4]), (34, [11, 15, 16]), (35, [15, 16]), (36, [15, 16, 136]), (37, [4]), (38, [139]), (39, [4]), (40, [4])]
def m8 : MC :=
  (.seq
 (.reg false [1, 2] [oX 2 (.box (.t 0)),
 oQ 4 (.mov (kB false))])
 (.seq
 (.reg false [1, 2, 5] [oQ 5 (.mov (kI 1048576))])
 (.seq
 (.reg false [1, 2, 5] [oQ 20 (.ldv 5 (.t 2)),
 oQ 21 (.mov (.t 5)),
 oX 22 (.call 51 [(.t 20), (.t 21)]),
 oQ 5 (.mov (.t 22))])
 (.seq
 (.seq
 (.reg false [1, 2, 5, 24] [oQ 23 (.mov (.t 5)),
 oQ 24 (.bin .lss (.t 23) (kI 0))])
 (.cond (.t 24)
 (.seq
 (.reg false [4] [oQ 4 (.mov (kB true))])
 .ret)
 .skip))
 (.seq
 (.reg false [1, 2, 5] [oQ 25 (.mov (.t 1)),
 oQ 26 (.mov (.t 5)),
 oX 27 (.call 57 [(.t 25), (.t 26)]),
 oQ 5 (.mov (.t 27))])
 (.seq
 (.seq
 (.reg false [1, 2, 29] [oQ 28 (.mov (.t 5)),
 oQ 29 (.bin .lss (.t 28) (kI 0))])
 (.cond (.t 29)
 (.seq
 (.reg false [4] [oQ 4 (.mov (kB true))])
 .ret)
 .skip))
 (.seq
 (.reg false [1, 2, 6, 7, 8] [oQ 31 (.ldv 5 (.t 2)),
 oX 32 (.call 52 [(.t 31)]),
 oQ 33 (.mov (.t 1)),
 oX 34 (.call 58 [(.t 33)]),
 oX 35 (.call 47 [(.t 32), (.t 34)]),
 oQ 30 (.mov (.t 35)),
 oQ 36 (.ext (.t 30) 0),
 oQ 37 (.ext (.t 30) 1),
 oQ 38 (.ext (.t 30) 2),
 oX 6 (.alloc (.st (.cons (.int .i64 0) (.cons (.sl true 4 .nil) (.cons (.int .i64 0) (.cons (.int .i64 0) (.cons (.sl true 1 .nil) .nil))))))),
 oN (.st 5 (.t 6) (.t 36)),
 oQ 7 (.mov (.t 37)),
 oQ 8 (.mov (.t 38))])
 (.seq
 (.reg false [1, 2, 6, 7, 8, 9] [oQ 39 (.ldv 5 (.t 2)),
 oX 40 (.call 52 [(.t 39)]),
 oX 9 (.alloc (.st (.cons (.int .i64 0) (.cons (.sl true 4 .nil) (.cons (.int .i64 0) (.cons (.int .i64 0) (.cons (.sl true 1 .nil) .nil))))))),
 oN (.st 5 (.t 9) (.t 40))])
 (.seq
 (.reg false [1, 2, 6, 7, 8, 9, 10] [oQ 41 (.mov (.t 1)),
 oX 42 (.call 58 [(.t 41)]),
 oQ 10 (.mov (.t 42))])
 (.seq
 (.reg false [1, 2, 6, 7, 8, 9, 10, 11, 12, 13] [oQ 44 (.ldv 5 (.t 9)),
 oQ 45 (.mov (.t 10)),
 oX 46 (.call 46 [(.t 44), (.t 45)]),
 oQ 43 (.mov (.t 46)),
 oQ 47 (.ext (.t 43) 0),
 oQ 48 (.ext (.t 43) 1),
 oQ 49 (.ext (.t 43) 2),
 oX 11 (.alloc (.st (.cons (.int .i64 0) (.cons (.sl true 4 .nil) (.cons (.int .i64 0) (.cons (.int .i64 0) (.cons (.sl true 1 .nil) .nil))))))),
 oN (.st 5 (.t 11) (.t 47)),
 oQ 12 (.mov (.t 48)),
 oQ 13 (.mov (.t 49))])
 (.seq
 (.seq
 (.reg false [1, 2, 6, 7, 8, 9, 10, 11, 12, 13, 63] [oQ 50 (.ldv 5 (.t 11)),
 oQ 51 (.ldv 5 (.t 6)),
 oX 52 (.call 54 [(.t 50), (.t 51)]),
 oQ 53 (.un .not (.t 52)),
 oQ 54 (.mov (.t 53)),
 oG 55 54 false (.mov (.t 12)),
 oG 56 54 false (.mov (.t 7)),
 oG 57 54 false (.bin .neq (.t 55) (.t 56)),
 oQ 58 (.pick (.t 54) (kB true) (.t 57)),
 oQ 59 (.mov (.t 58)),
 oG 60 59 false (.mov (.t 13)),
 oG 61 59 false (.mov (.t 8)),
 oG 62 59 false (.bb .neq (.t 60) (.t 61)),
 oQ 63 (.pick (.t 59) (kB true) (.t 62))])
 (.cond (.t 63)
 (.seq
 (.reg false [4] [oQ 4 (.mov (kB false))])
 .ret)
 .skip))
 (.seq
 (.seq
 (.reg true [1, 2, 6, 7, 8, 9, 10, 11, 12, 13, 68] [oQ 64 (.ldv 5 (.t 9)),
 oQ 65 (.ldv 5 (.t 2)),
 oQ 66 (.callP 52 [(.t 65)]),
 oQ 67 (.callP 54 [(.t 64), (.t 66)]),
 oQ 68 (.un .not (.t 67))])
 (.cond (.t 68)
 (.seq
 (.reg false [4] [oQ 4 (.mov (kB false))])
 .ret)
 .skip))
 (.seq
 (.seq
 (.reg false [1, 2, 6, 7, 8, 9, 10, 11, 12, 13, 73] [oQ 69 (.mov (.t 10)),
 oQ 70 (.mov (.t 1)),
 oX 71 (.call 58 [(.t 70)]),
 oX 72 (.call 59 [(.t 69), (.t 71)]),
 oQ 73 (.un .not (.t 72))])
 (.cond (.t 73)
 (.seq
 (.reg false [4] [oQ 4 (.mov (kB false))])
 .ret)
 .skip))
 (.seq
 (.reg false [1, 2, 6, 7, 8, 9, 10, 11, 12, 13, 14] [oQ 14 (.mov (kI 1))])
 (.seq
 (.reg false [1, 2, 6, 7, 8, 10, 11, 12, 13, 14] [oQ 74 (.ldv 5 (.t 9)),
 oQ 75 (.mov (.t 14)),
 oX 76 (.call 55 [(.t 74), (.t 75)]),
 oQ 14 (.mov (.t 76))])
 (.seq
 (.reg false [1, 2, 6, 7, 8, 11, 12, 13, 14] [oQ 77 (.mov (.t 10)),
 oQ 78 (.mov (.t 14)),
 oX 79 (.call 60 [(.t 77), (.t 78)]),
 oQ 14 (.mov (.t 79))])
 (.seq
 (.seq
 (.reg false [1, 2, 6, 7, 8, 11, 97] [oQ 80 (.mov (.t 14)),
 oQ 81 (.bin .lss (.t 80) (kI 0)),
 oQ 82 (.mov (.t 81)),
 oG 83 82 false (.ldv 5 (.t 11)),
 oG 84 82 false (.ldv 5 (.t 6)),
 oH 85 82 false (.call 54 [(.t 83), (.t 84)]),
 oG 86 82 false (.un .not (.t 85)),
 oQ 87 (.pick (.t 82) (kB true) (.t 86)),
 oQ 88 (.mov (.t 87)),
 oG 89 88 false (.mov (.t 12)),
 oG 90 88 false (.mov (.t 7)),
 oG 91 88 false (.bin .neq (.t 89) (.t 90)),
 oQ 92 (.pick (.t 88) (kB true) (.t 91)),
 oQ 93 (.mov (.t 92)),
 oG 94 93 false (.mov (.t 13)),
 oG 95 93 false (.mov (.t 8)),
 oG 96 93 false (.bb .neq (.t 94) (.t 95)),
 oQ 97 (.pick (.t 93) (kB true) (.t 96))])
 (.cond (.t 97)
 (.seq
 (.reg false [4] [oQ 4 (.mov (kB false))])
 .ret)
 .skip))
 (.seq
 (.reg false [1, 2, 6, 7, 8, 11, 15] [oQ 15 (.mov (kI 1))])
 (.seq
 (.reg false [1, 2, 6, 7, 8, 11, 15] [oQ 98 (.ldv 5 (.t 11)),
 oQ 99 (.mov (.t 15)),
 oX 100 (.call 55 [(.t 98), (.t 99)]),
 oQ 15 (.mov (.t 100))])
 (.seq
 (.reg false [1, 2, 6, 7, 8, 11, 15, 16] [oQ 16 (.mov (kI 1))])
 (.seq
 (.reg false [1, 2, 6, 7, 8, 11, 15, 16] [oQ 101 (.ldv 5 (.t 11)),
 oQ 102 (.mov (.t 16)),
 oX 103 (.call 56 [(.t 101), (.t 102)]),
 oQ 16 (.mov (.t 103))])
 (.seq
 (.seq
 (.reg false [1, 2, 6, 7, 8, 11, 15, 16, 105] [oQ 104 (.mov (.t 16)),
 oQ 105 (.bin .lss (.t 104) (kI 0))])
 (.cond (.t 105)
 (.seq
 (.reg false [4] [oQ 4 (.mov (kB false))])
 .ret)
 .skip))
 (.seq
 (.seq
 (.reg false [1, 2, 6, 7, 8, 11, 15, 108] [oQ 106 (.mov (.t 16)),
 oQ 107 (.mov (.t 15)),
 oQ 108 (.bin .neq (.t 106) (.t 107))])
 (.cond (.t 108)
 (.seq
 (.reg false [4] [oQ 4 (.mov (kB false))])
 .ret)
 .skip))
 (.seq
 (.reg false [6, 7, 8, 11, 15, 17, 18, 19] [oQ 110 (.ldv 5 (.t 2)),
 oX 111 (.call 52 [(.t 110)]),
 oQ 112 (.mov (.t 1)),
 oX 113 (.call 58 [(.t 112)]),
 oX 114 (.call 46 [(.t 111), (.t 113)]),
 oQ 109 (.mov (.t 114)),
 oQ 115 (.ext (.t 109) 0),
 oQ 116 (.ext (.t 109) 1),
 oQ 117 (.ext (.t 109) 2),
 oX 17 (.alloc (.st (.cons (.int .i64 0) (.cons (.sl true 4 .nil) (.cons (.int .i64 0) (.cons (.int .i64 0) (.cons (.sl true 1 .nil) .nil))))))),
 oN (.st 5 (.t 17) (.t 115)),
 oQ 18 (.mov (.t 116)),
 oQ 19 (.mov (.t 117))])
 (.seq
 (.seq
 (.reg false [11, 15, 131] [oQ 118 (.ldv 5 (.t 17)),
 oQ 119 (.ldv 5 (.t 6)),
 oX 120 (.call 54 [(.t 118), (.t 119)]),
 oQ 121 (.un .not (.t 120)),
 oQ 122 (.mov (.t 121)),
 oG 123 122 false (.mov (.t 18)),
 oG 124 122 false (.mov (.t 7)),
 oG 125 122 false (.bin .neq (.t 123) (.t 124)),
 oQ 126 (.pick (.t 122) (kB true) (.t 125)),
 oQ 127 (.mov (.t 126)),
 oG 128 127 false (.mov (.t 19)),
 oG 129 127 false (.mov (.t 8)),
 oG 130 127 false (.bb .neq (.t 128) (.t 129)),
 oQ 131 (.pick (.t 127) (kB true) (.t 130))])
 (.cond (.t 131)
 (.seq
 (.reg false [4] [oQ 4 (.mov (kB false))])
 .ret)
 .skip))
 (.seq
 (.reg false [11, 15, 16] [oQ 16 (.mov (kI 1))])
 (.seq
 (.reg false [15, 16] [oQ 132 (.ldv 5 (.t 11)),
 oQ 133 (.mov (.t 16)),
 oX 134 (.call 56 [(.t 132), (.t 133)]),
 oQ 16 (.mov (.t 134))])
 (.seq
 (.seq
 (.reg false [15, 16, 136] [oQ 135 (.mov (.t 16)),
 oQ 136 (.bin .lss (.t 135) (kI 0))])
 (.cond (.t 136)
 (.seq
 (.reg false [4] [oQ 4 (.mov (kB false))])
 .ret)
 .skip))
 (.seq
 (.seq
 (.reg false [139] [oQ 137 (.mov (.t 16)),
 oQ 138 (.mov (.t 15)),
 oQ 139 (.bin .neq (.t 137) (.t 138))])
 (.cond (.t 139)
 (.seq
 (.reg false [4] [oQ 4 (.mov (kB false))])
 .ret)
 .skip))
 (.seq
 (.reg false [4] [oQ 4 (.mov (kB true))])
 .ret))))))))))))))))))))))))))))))
theorem c8 : (Go.Proofs.Tryz.f8).body.bind (comp prog.P (2, (Go.Proofs.Tryz.f8).ntmps) lv8) = some m8 := by kernel_rfl
theorem r8 : resOK prog.P (Go.Proofs.Tryz.f8).results.toList = true := by kernel_rfl
def lv17 : List (Nat × List Nat) := [(0, [0, 1]), (1, [0, 1, 10]), (2, [4]), (3, [0, 1, 5]), (4, [0, 1, 5, 14]), (5, [0, 1, 5]), (6, [0, 1, 5, 25]), (7, [4]), (8, [4])]
def m17 : MC :=
  (.seq
 (.reg false [0, 1] [oQ 4 (.mov (kB false))])
 (.seq
 (.seq
 (.reg false [0, 1, 10] [oQ 6 (.mov (.t 0)),
 oQ 7 (.len false (.t 6)),
 oQ 8 (.mov (.t 1)),
 oQ 9 (.len false (.t 8)),
 oQ 10 (.bin .neq (.t 7) (.t 9))])
 (.cond (.t 10)
 (.seq
 (.reg false [4] [oQ 4 (.mov (kB false))])
 .ret)
 .skip))
 (.seq
 (.seq
 (.reg false [0, 1, 5] [oQ 5 (.mov (kI 0))])
 (.block 0
 (.loop
 (.seq
 (.seq
 (.reg false [0, 1, 5, 14] [oQ 11 (.mov (.t 5)),
 oQ 12 (.mov (.t 0)),
 oQ 13 (.len false (.t 12)),
 oQ 14 (.bin .lss (.t 11) (.t 13))])
 (.cond (.t 14)
 .skip
 (.exit 0)))
 (.seq
 (.block 1
 (.seq
 (.reg true [0, 1, 5, 25] [oQ 17 (.mov (.t 0)),
 oQ 18 (.mov (.t 5)),
 oQ 19 (.ia 1 (.t 17) (.t 18)),
 oQ 20 (.ld none (.t 19)),
 oQ 21 (.mov (.t 1)),
 oQ 22 (.mov (.t 5)),
 oQ 23 (.ia 1 (.t 21) (.t 22)),
 oQ 24 (.ld none (.t 23)),
 oQ 25 (.bin .neq (.t 20) (.t 24))])
 (.cond (.t 25)
 (.seq
 (.reg false [4] [oQ 4 (.mov (kB false))])
 .ret)
 .skip)))
 (.reg false [0, 1, 5] [oQ 15 (.mov (.t 5)),
 oQ 16 (.bin .add (.t 15) (kI 1)),
 oQ 5 (.mov (.t 16))]))))))
 (.seq
 (.reg false [4] [oQ 4 (.mov (kB true))])
 .ret))))
theorem c17 : (Go.Proofs.Tryz.f17).body.bind (comp prog.P (2, (Go.Proofs.Tryz.f17).ntmps) lv17) = some m17 := by kernel_rfl
theorem r17 : resOK prog.P (Go.Proofs.Tryz.f17).results.toList = true := by kernel_rfl
def lv20 : List (Nat × List Nat) := [(0, [0, 1]), (1, [0, 1, 5]), (2, [0, 1, 5, 9]), (3, [0, 1, 5]), (4, [0, 1, 5]), (5, [0, 1, 5]), (6, [0, 4])]
def m20 : MC :=
  (.seq
 (.reg false [0, 1] [oQ 4 (.mov (kI 0))])
 (.seq
 (.seq
 (.reg false [0, 1, 5] [oQ 5 (.mov (kI 0))])
 (.block 0
 (.loop
 (.seq
 (.seq
 (.reg false [0, 1, 5, 9] [oQ 6 (.mov (.t 5)),
 oQ 7 (.mov (.t 0)),
 oQ 8 (.len false (.t 7)),
 oQ 9 (.bin .lss (.t 6) (.t 8))])
 (.cond (.t 9)
 .skip
 (.exit 0)))
 (.seq
 (.block 1
 (.seq
 (.reg false [0, 1, 5] [oQ 12 (.mov (.t 0)),
 oQ 13 (.mov (.t 5)),
 oQ 14 (.mov (.t 1)),
 oX 15 (.call 87 [(.t 14)]),
 oQ 16 (.ia 1 (.t 12) (.t 13)),
 oN (.st 1 (.t 16) (.t 15))])
 (.reg false [0, 1, 5] [oQ 17 (.mov (.t 1)),
 oQ 18 (.bin .add (.t 17) (kI 1)),
 oQ 1 (.mov (.t 18))])))
 (.reg false [0, 1, 5] [oQ 10 (.mov (.t 5)),
 oQ 11 (.bin .add (.t 10) (kI 1)),
 oQ 5 (.mov (.t 11))]))))))
 (.seq
 (.reg false [0, 4] [oQ 19 (.mov (.t 1)),
 oQ 4 (.mov (.t 19))])
 .ret)))
theorem c20 : (Go.Proofs.Tryz.f20).body.bind (comp prog.P (1, (Go.Proofs.Tryz.f20).ntmps) lv20) = some m20 := by kernel_rfl
theorem r20 : resOK prog.P (Go.Proofs.Tryz.f20).results.toList = true := by kernel_rfl
def lv21 : List (Nat × List Nat) := [(0, [0, 1]), (1, [0, 1, 5]), (2, [0, 1, 5, 9]), (3, [0, 1, 5]), (4, [0, 1, 5, 18]), (5, [4]), (6, [0, 1, 5]), (7, [4])]
def m21 : MC :=
  (.seq
 (.reg false [0, 1] [oQ 4 (.mov (kI 0))])
 (.seq
 (.seq
 (.reg false [0, 1, 5] [oQ 5 (.mov (kI 0))])
 (.block 0
 (.loop
 (.seq
 (.seq
 (.reg false [0, 1, 5, 9] [oQ 6 (.mov (.t 5)),
 oQ 7 (.mov (.t 0)),
 oQ 8 (.len false (.t 7)),
 oQ 9 (.bin .lss (.t 6) (.t 8))])
 (.cond (.t 9)
 .skip
 (.exit 0)))
 (.seq
 (.block 1
 (.seq
 (.seq
 (.reg true [0, 1, 5, 18] [oQ 12 (.mov (.t 0)),
 oQ 13 (.mov (.t 5)),
 oQ 14 (.ia 1 (.t 12) (.t 13)),
 oQ 15 (.ld none (.t 14)),
 oQ 16 (.mov (.t 1)),
 oQ 17 (.callP 87 [(.t 16)]),
 oQ 18 (.bin .neq (.t 15) (.t 17))])
 (.cond (.t 18)
 (.seq
 (.reg false [4] [oQ 4 (.mov (.k (.d (.int .i64 (-1)))))])
 .ret)
 .skip))
 (.reg false [0, 1, 5] [oQ 19 (.mov (.t 1)),
 oQ 20 (.bin .add (.t 19) (kI 1)),
 oQ 1 (.mov (.t 20))])))
 (.reg false [0, 1, 5] [oQ 10 (.mov (.t 5)),
 oQ 11 (.bin .add (.t 10) (kI 1)),
 oQ 5 (.mov (.t 11))]))))))
 (.seq
 (.reg false [4] [oQ 21 (.mov (.t 1)),
 oQ 4 (.mov (.t 21))])
 .ret)))
theorem c21 : (Go.Proofs.Tryz.f21).body.bind (comp prog.P (1, (Go.Proofs.Tryz.f21).ntmps) lv21) = some m21 := by kernel_rfl
theorem r21 : resOK prog.P (Go.Proofs.Tryz.f21).results.toList = true := by kernel_rfl
def lv37 : List (Nat × List Nat) := [(0, [2, 3, 4]), (1, [2, 3, 4, 15]), (2, [4, 5]), (3, [3, 4, 6]), (4, [4, 6, 26]), (5, [4, 5]), (6, [4, 5])]
def m37 : MC :=
  (.seq
 (.reg false [2, 3, 4] [oX 2 (.box (.t 0)),
 oX 3 (.box (.t 1)),
 oX 4 (.alloc (.st (.cons (.int .i64 0) (.cons (.sl true 4 .nil) (.cons (.int .i64 0) (.cons (.int .i64 0) (.cons (.sl true 1 .nil) .nil))))))),
 oQ 5 (.mov (kB false))])
 (.seq
 (.seq
 (.reg false [2, 3, 4, 15] [oQ 7 (.ldv 5 (.t 2)),
 oX 8 (.call 40 [(.t 7)]),
 oQ 9 (.un .not (.t 8)),
 oQ 10 (.mov (.t 9)),
 oG 11 10 false (.fa 3 3 (.t 3)),
 oG 12 10 false (.ld none (.t 11)),
 oH 13 10 false (.call 105 [(.t 12), (kI 0), (kI 20000)]),
 oG 14 10 false (.un .not (.t 13)),
 oQ 15 (.pick (.t 10) (kB true) (.t 14))])
 (.cond (.t 15)
 (.seq
 (.reg false [4, 5] [oX 16 (.bld (.cons (.int .i64 0) (.cons (.sl true 4 .nil) (.cons (.int .i64 0) (.cons (.int .i64 0) (.cons (.sl true 1 .nil) .nil))))) []),
 oN (.st 5 (.t 4) (.t 16)),
 oQ 5 (.mov (kB false))])
 .ret)
 .skip))
 (.seq
 (.reg false [3, 4, 6] [oQ 17 (.ldv 5 (.t 2)),
 oX 18 (.call 109 [(.t 17)]),
 oX 6 (.alloc (.st (.cons (.int .i64 0) (.cons (.sl true 4 .nil) (.cons (.int .i64 0) (.cons (.int .i64 0) (.cons (.sl true 1 .nil) .nil))))))),
 oN (.st 5 (.t 6) (.t 18))])
 (.seq
 (.seq
 (.reg false [4, 6, 26] [oQ 19 (.ld (some 4) (.t 3)),
 oX 20 (.call 110 [(.t 6), (.t 19)]),
 oQ 21 (.un .not (.t 20)),
 oQ 22 (.mov (.t 21)),
 oG 23 22 false (.ldv 5 (.t 6)),
 oH 24 22 false (.call 40 [(.t 23)]),
 oG 25 22 false (.un .not (.t 24)),
 oQ 26 (.pick (.t 22) (kB true) (.t 25))])
 (.cond (.t 26)
 (.seq
 (.reg false [4, 5] [oX 27 (.bld (.cons (.int .i64 0) (.cons (.sl true 4 .nil) (.cons (.int .i64 0) (.cons (.int .i64 0) (.cons (.sl true 1 .nil) .nil))))) []),
 oN (.st 5 (.t 4) (.t 27)),
 oQ 5 (.mov (kB false))])
 .ret)
 .skip))
 (.seq
 (.reg false [4, 5] [oQ 28 (.ldv 5 (.t 6)),
 oN (.st 5 (.t 4) (.t 28)),
 oQ 5 (.mov (kB true))])
 .ret)))))
theorem c37 : (Go.Proofs.Tryz.f37).body.bind (comp prog.P (2, (Go.Proofs.Tryz.f37).ntmps) lv37) = some m37 := by kernel_rfl
theorem r37 : resOK prog.P (Go.Proofs.Tryz.f37).results.toList = true := by kernel_rfl
def lv40 : List (Nat × List Nat) := [(0, [1]), (1, [1, 38]), (2, [2]), (3, [1, 40, 41, 42]), (4, [1, 40, 41, 42, 43]), (5, [1, 3, 4, 40, 41, 42]), (6, [1, 40, 41, 42, 65]), (7, [2]), (8, [1, 40, 41, 42]), (9, [2])]
def m40 : MC :=
  (.seq
 (.reg false [1] [oX 1 (.box (.t 0)),
 oQ 2 (.mov (kB false))])
 (.seq
 (.seq
 (.reg false [1, 38] [oQ 5 (.fa 0 0 (.t 1)),
 oQ 6 (.ld none (.t 5)),
 oX 7 (.call 115 [(.t 6)]),
 oQ 8 (.un .not (.t 7)),
 oQ 9 (.mov (.t 8)),
 oG 10 9 false (.fa 1 1 (.t 1)),
 oG 11 9 false (.ld none (.t 10)),
 oG 12 9 false (.len false (.t 11)),
 oG 13 9 false (.bin .gtr (.t 12) (kI 6)),
 oQ 14 (.pick (.t 9) (kB true) (.t 13)),
 oQ 15 (.mov (.t 14)),
 oG 16 15 false (.fa 2 2 (.t 1)),
 oG 17 15 false (.ld none (.t 16)),
 oH 18 15 false (.call 105 [(.t 17), (kI 0), (kI 999)]),
 oG 19 15 false (.un .not (.t 18)),
 oQ 20 (.pick (.t 15) (kB true) (.t 19)),
 oQ 21 (.mov (.t 20)),
 oG 22 21 false (.fa 3 3 (.t 1)),
 oG 23 21 false (.ld none (.t 22)),
 oH 24 21 false (.call 105 [(.t 23), (kI 0), (kI 999)]),
 oG 25 21 false (.un .not (.t 24)),
 oQ 26 (.pick (.t 21) (kB true) (.t 25)),
 oQ 27 (.mov (.t 26)),
 oG 28 27 false (.fa 4 4 (.t 1)),
 oG 29 27 false (.ld none (.t 28)),
 oG 30 27 false (.len false (.t 29)),
 oG 31 27 false (.bin .gtr (.t 30) (kI 0)),
 oG 32 27 false (.mov (.t 31)),
 oG 33 32 true (.fa 4 4 (.t 1)),
 oG 34 32 true (.ld none (.t 33)),
 oH 35 32 true (.call 116 [(.t 34)]),
 oG 36 32 true (.un .not (.t 35)),
 oG 37 27 false (.pick (.t 32) (.t 36) (kB false)),
 oQ 38 (.pick (.t 27) (kB true) (.t 37))])
 (.cond (.t 38)
 (.seq
 (.reg false [2] [oQ 2 (.mov (kB false))])
 .ret)
 .skip))
 (.seq
 (.seq
 (.reg false [1, 40, 41, 42] [oQ 39 (.fa 1 1 (.t 1)),
 oQ 40 (.ld none (.t 39)),
 oQ 41 (.len false (.t 40)),
 oQ 42 (.mov (kI 0))])
 (.block 0
 (.loop
 (.seq
 (.reg false [1, 40, 41, 42, 43] [oQ 43 (.bin .lss (.t 42) (.t 41))])
 (.seq
 (.cond (.t 43)
 .skip
 (.exit 0))
 (.seq
 (.block 1
 (.seq
 (.reg false [1, 3, 4, 40, 41, 42] [oQ 44 (.mov (.t 42)),
 oQ 45 (.ia 4 (.t 40) (.t 42)),
 oQ 46 (.ld (some 4) (.t 45)),
 oX 4 (.alloc (.st (.cons (.int .i64 0) (.cons (.int .i64 0) (.cons (.int .i64 0) (.cons (.sl true 1 .nil) .nil)))))),
 oQ 3 (.mov (.t 44)),
 oN (.st 4 (.t 4) (.t 46))])
 (.seq
 (.reg true [1, 40, 41, 42, 65] [oQ 47 (.ld (some 4) (.t 4)),
 oQ 48 (.callP 117 [(.t 47)]),
 oQ 49 (.un .not (.t 48)),
 oQ 50 (.mov (.t 49)),
 oG 51 50 false (.mov (.t 3)),
 oG 52 50 false (.bin .gtr (.t 51) (kI 0)),
 oG 53 50 false (.mov (.t 52)),
 oG 54 53 true (.fa 1 1 (.t 1)),
 oG 55 53 true (.ld none (.t 54)),
 oG 56 53 true (.mov (.t 3)),
 oG 57 53 true (.bin .sub (.t 56) (kI 1)),
 oG 58 53 true (.ia 4 (.t 55) (.t 57)),
 oG 59 53 true (.fa 0 0 (.t 58)),
 oG 60 53 true (.ld none (.t 59)),
 oG 61 53 true (.fa 0 0 (.t 4)),
 oG 62 53 true (.ld none (.t 61)),
 oG 63 53 true (.bin .geq (.t 60) (.t 62)),
 oG 64 50 false (.pick (.t 53) (.t 63) (kB false)),
 oQ 65 (.pick (.t 50) (kB true) (.t 64))])
 (.cond (.t 65)
 (.seq
 (.reg false [2] [oQ 2 (.mov (kB false))])
 .ret)
 .skip))))
 (.reg false [1, 40, 41, 42] [oQ 66 (.bin .add (.t 42) (kI 1)),
 oQ 42 (.mov (.t 66))])))))))
 (.seq
 (.reg false [2] [oQ 2 (.mov (kB true))])
 .ret))))
theorem c40 : (Go.Proofs.Tryz.f40).body.bind (comp prog.P (1, (Go.Proofs.Tryz.f40).ntmps) lv40) = some m40 := by kernel_rfl
theorem r40 : resOK prog.P (Go.Proofs.Tryz.f40).results.toList = true := by kernel_rfl
def lv46 : List (Nat × List Nat) := [(0, [1, 2, 4]), (1, [1, 2, 4, 19]), (2, [4, 5, 6]), (3, [1, 2, 4]), (4, [1, 2, 4, 7]), (5, [2, 4, 7, 23, 24, 25]), (6, [2, 4, 7, 23, 24, 25, 26]), (7, [2, 4, 7, 9, 23, 24, 25]), (8, [2, 4, 7, 10, 11, 23, 24, 25]), (9, [2, 4, 7, 10, 23, 24, 25, 35]), (10, [2, 4, 7, 23, 24, 25]), (11, [2, 4, 7, 23, 24, 25]), (12, [2, 4, 7, 23, 24, 25]), (13, [4, 5, 6])]
def m46 : MC :=
  (.seq
 (.reg false [1, 2, 4] [oX 2 (.box (.t 0)),
 oX 4 (.alloc (.st (.cons (.int .i64 0) (.cons (.sl true 4 .nil) (.cons (.int .i64 0) (.cons (.int .i64 0) (.cons (.sl true 1 .nil) .nil))))))),
 oQ 5 (.mov (kI 0)),
 oQ 6 (.mov (kB false))])
 (.seq
 (.seq
 (.reg false [1, 2, 4, 19] [oQ 12 (.ldv 5 (.t 2)),
 oX 13 (.call 40 [(.t 12)]),
 oQ 14 (.un .not (.t 13)),
 oQ 15 (.mov (.t 14)),
 oG 16 15 false (.mov (.t 1)),
 oG 17 15 false (.len false (.t 16)),
 oG 18 15 false (.bin .gtr (.t 17) (kI 40)),
 oQ 19 (.pick (.t 15) (kB true) (.t 18))])
 (.cond (.t 19)
 (.seq
 (.reg false [4, 5, 6] [oX 20 (.bld (.cons (.int .i64 0) (.cons (.sl true 4 .nil) (.cons (.int .i64 0) (.cons (.int .i64 0) (.cons (.sl true 1 .nil) .nil))))) []),
 oN (.st 5 (.t 4) (.t 20)),
 oQ 5 (.mov (kI 0)),
 oQ 6 (.mov (kB false))])
 .ret)
 .skip))
 (.seq
 (.reg false [1, 2, 4] [oQ 21 (.ldv 5 (.t 2)),
 oX 22 (.call 109 [(.t 21)]),
 oN (.st 5 (.t 2) (.t 22))])
 (.seq
 (.reg false [1, 2, 4, 7] [oQ 7 (.mov (kI 0))])
 (.seq
 (.seq
 (.reg false [2, 4, 7, 23, 24, 25] [oQ 23 (.mov (.t 1)),
 oQ 24 (.len false (.t 23)),
 oQ 25 (.mov (kI 0))])
 (.block 0
 (.loop
 (.seq
 (.reg false [2, 4, 7, 23, 24, 25, 26] [oQ 26 (.bin .lss (.t 25) (.t 24))])
 (.seq
 (.cond (.t 26)
 .skip
 (.exit 0))
 (.seq
 (.block 1
 (.seq
 (.reg false [2, 4, 7, 9, 23, 24, 25] [oQ 27 (.ia 4 (.t 23) (.t 25)),
 oQ 28 (.ld (some 4) (.t 27)),
 oX 9 (.alloc (.st (.cons (.int .i64 0) (.cons (.int .i64 0) (.cons (.int .i64 0) (.cons (.int .i64 0) .nil)))))),
 oN (.st 4 (.t 9) (.t 28))])
 (.seq
 (.reg false [2, 4, 7, 10, 11, 23, 24, 25] [oQ 30 (.ldv 5 (.t 2)),
 oQ 31 (.ld (some 4) (.t 9)),
 oX 32 (.call 37 [(.t 30), (.t 31)]),
 oQ 29 (.mov (.t 32)),
 oQ 33 (.ext (.t 29) 0),
 oQ 34 (.ext (.t 29) 1),
 oX 10 (.alloc (.st (.cons (.int .i64 0) (.cons (.sl true 4 .nil) (.cons (.int .i64 0) (.cons (.int .i64 0) (.cons (.sl true 1 .nil) .nil))))))),
 oN (.st 5 (.t 10) (.t 33)),
 oQ 11 (.mov (.t 34))])
 (.seq
 (.reg false [2, 4, 7, 10, 23, 24, 25, 35] [oQ 35 (.mov (.t 11))])
 (.cond (.t 35)
 (.seq
 (.reg false [2, 4, 7, 23, 24, 25] [oQ 36 (.ldv 5 (.t 10)),
 oN (.st 5 (.t 2) (.t 36))])
 (.reg false [2, 4, 7, 23, 24, 25] [oQ 37 (.mov (.t 7)),
 oQ 38 (.bin .add (.t 37) (kI 1)),
 oQ 7 (.mov (.t 38))]))
 .skip)))))
 (.reg false [2, 4, 7, 23, 24, 25] [oQ 39 (.bin .add (.t 25) (kI 1)),
 oQ 25 (.mov (.t 39))])))))))
 (.seq
 (.reg false [4, 5, 6] [oQ 40 (.ldv 5 (.t 2)),
 oQ 41 (.mov (.t 7)),
 oN (.st 5 (.t 4) (.t 40)),
 oQ 5 (.mov (.t 41)),
 oQ 6 (.mov (kB true))])
 .ret))))))
theorem c46 : (Go.Proofs.Tryz.f46).body.bind (comp prog.P (2, (Go.Proofs.Tryz.f46).ntmps) lv46) = some m46 := by kernel_rfl
theorem r46 : resOK prog.P (Go.Proofs.Tryz.f46).results.toList = true := by kernel_rfl
def lv47 : List (Nat × List Nat) := [(0, [1, 2, 4]), (1, [1, 2, 4, 19]), (2, [4, 5, 6]), (3, [1, 4, 7, 8]), (4, [1, 4, 7, 8, 9]), (5, [1, 4, 7, 8, 9, 26]), (6, [1, 4, 7, 8, 9]), (7, [1, 4, 7, 8, 9, 35]), (8, [1, 4, 7, 8, 9, 10, 11]), (9, [1, 4, 7, 8, 9, 10, 45]), (10, [1, 4, 7, 8, 9]), (11, [1, 4, 7, 8, 9]), (12, [4, 5, 6]), (1000008, [2, 10, 11, 1, 1, 1, 2, 1, 3, 1, 4, 3, 2, 0, 3, 2, 5, 1, 6, 1, 7, 1, 8, 2, 9, 2, 10, 2, 11, 0, 2, 9, 2, 5, 1, 6, 1, 7, 1, 8, 2, 10, 2, 11, 0, 2, 9, 2, 0, 2, 5, 1, 6, 1, 7, 1, 8, 2, 10, 2, 11, 0])]
def m47 : MC :=
  (.seq
 (.reg false [1, 2, 4] [oX 2 (.box (.t 0)),
 oX 4 (.alloc (.st (.cons (.int .i64 0) (.cons (.sl true 4 .nil) (.cons (.int .i64 0) (.cons (.int .i64 0) (.cons (.sl true 1 .nil) .nil))))))),
 oQ 5 (.mov (kI 0)),
 oQ 6 (.mov (kB false))])
 (.seq
 (.seq
 (.reg false [1, 2, 4, 19] [oQ 12 (.ldv 5 (.t 2)),
 oX 13 (.call 111 [(.t 12)]),
 oQ 14 (.un .not (.t 13)),
 oQ 15 (.mov (.t 14)),
 oG 16 15 false (.mov (.t 1)),
 oG 17 15 false (.len false (.t 16)),
 oG 18 15 false (.bin .gtr (.t 17) (kI 40)),
 oQ 19 (.pick (.t 15) (kB true) (.t 18))])
 (.cond (.t 19)
 (.seq
 (.reg false [4, 5, 6] [oX 20 (.bld (.cons (.int .i64 0) (.cons (.sl true 4 .nil) (.cons (.int .i64 0) (.cons (.int .i64 0) (.cons (.sl true 1 .nil) .nil))))) []),
 oN (.st 5 (.t 4) (.t 20)),
 oQ 5 (.mov (kI 0)),
 oQ 6 (.mov (kB false))])
 .ret)
 .skip))
 (.seq
 (.reg false [1, 4, 7, 8] [oQ 21 (.ldv 5 (.t 2)),
 oX 22 (.call 121 [(.t 21)]),
 oX 7 (.alloc (.st (.cons (.int .i64 0) (.cons (.sl true 4 .nil) (.cons (.int .i64 0) (.cons (.int .i64 0) (.cons (.sl true 1 .nil) .nil))))))),
 oN (.st 5 (.t 7) (.t 22)),
 oQ 8 (.mov (kI 0))])
 (.seq
 (.seq
 (.reg false [1, 4, 7, 8, 9] [oQ 9 (.mov (kI 0))])
 (.block 0
 (.loop
 (.seq
 (.seq
 (.reg false [1, 4, 7, 8, 9, 26] [oQ 23 (.mov (.t 9)),
 oQ 24 (.mov (.t 1)),
 oQ 25 (.len false (.t 24)),
 oQ 26 (.bin .lss (.t 23) (.t 25))])
 (.cond (.t 26)
 .skip
 (.exit 0)))
 (.seq
 (.block 1
 (.seq
 (.seq
 (.reg true [1, 4, 7, 8, 9, 35] [oQ 29 (.ldv 5 (.t 7)),
 oQ 30 (.mov (.t 1)),
 oQ 31 (.mov (.t 9)),
 oQ 32 (.ia 4 (.t 30) (.t 31)),
 oQ 33 (.ld (some 4) (.t 32)),
 oQ 34 (.callP 112 [(.t 29), (.t 33)]),
 oQ 35 (.un .not (.t 34))])
 (.cond (.t 35)
 (.exit 1)
 .skip))
 (.seq
 (.any [10, 11] [1, 4, 7, 8, 9, 10, 11] (.q 1 (oQ 38 (.mov (.t 1))) (.q 2 (oQ 39 (.mov (.t 9))) (.q 3 (oQ 40 (.ia 4 (.t 38) (.t 39))) (.q 4 (oQ 41 (.ld (some 4) (.t 40))) (.br (.e 0 (oQ 37 (.ldv 5 (.t 7))) (.br (.e 5 (oX 42 (.call 113 [(.t 37), (.t 41)])) (.q 6 (oQ 36 (.mov (.t 42))) (.q 7 (oQ 43 (.ext (.t 36) 0)) (.q 8 (oQ 44 (.ext (.t 36) 1)) (.e 9 (oX 10 (.alloc (.st (.cons (.int .i64 0) (.cons (.sl true 4 .nil) (.cons (.int .i64 0) (.cons (.int .i64 0) (.cons (.sl true 1 .nil) .nil)))))))) (.e 10 (oN (.st 5 (.t 10) (.t 43))) (.e 11 (oQ 11 (.mov (.t 44))) .done)))))))
 (.e 9 (oX 10 (.alloc (.st (.cons (.int .i64 0) (.cons (.sl true 4 .nil) (.cons (.int .i64 0) (.cons (.int .i64 0) (.cons (.sl true 1 .nil) .nil)))))))) (.e 5 (oX 42 (.call 113 [(.t 37), (.t 41)])) (.q 6 (oQ 36 (.mov (.t 42))) (.q 7 (oQ 43 (.ext (.t 36) 0)) (.q 8 (oQ 44 (.ext (.t 36) 1)) (.e 10 (oN (.st 5 (.t 10) (.t 43))) (.e 11 (oQ 11 (.mov (.t 44))) .done)))))))))
 (.e 9 (oX 10 (.alloc (.st (.cons (.int .i64 0) (.cons (.sl true 4 .nil) (.cons (.int .i64 0) (.cons (.int .i64 0) (.cons (.sl true 1 .nil) .nil)))))))) (.e 0 (oQ 37 (.ldv 5 (.t 7))) (.e 5 (oX 42 (.call 113 [(.t 37), (.t 41)])) (.q 6 (oQ 36 (.mov (.t 42))) (.q 7 (oQ 43 (.ext (.t 36) 0)) (.q 8 (oQ 44 (.ext (.t 36) 1)) (.e 10 (oN (.st 5 (.t 10) (.t 43))) (.e 11 (oQ 11 (.mov (.t 44))) .done))))))))))))))
 (.seq
 (.reg false [1, 4, 7, 8, 9, 10, 45] [oQ 45 (.mov (.t 11))])
 (.cond (.t 45)
 (.seq
 (.reg false [1, 4, 7, 8, 9] [oQ 46 (.ldv 5 (.t 10)),
 oN (.st 5 (.t 7) (.t 46))])
 (.reg false [1, 4, 7, 8, 9] [oQ 47 (.mov (.t 8)),
 oQ 48 (.bin .add (.t 47) (kI 1)),
 oQ 8 (.mov (.t 48))]))
 .skip)))))
 (.reg false [1, 4, 7, 8, 9] [oQ 27 (.mov (.t 9)),
 oQ 28 (.bin .add (.t 27) (kI 1)),
 oQ 9 (.mov (.t 28))]))))))
 (.seq
 (.reg false [4, 5, 6] [oQ 49 (.ldv 5 (.t 7)),
 oQ 50 (.mov (.t 8)),
 oN (.st 5 (.t 4) (.t 49)),
 oQ 5 (.mov (.t 50)),
 oQ 6 (.mov (kB true))])
 .ret)))))
theorem c47 : (Go.Proofs.Tryz.f47).body.bind (comp prog.P (2, (Go.Proofs.Tryz.f47).ntmps) lv47) = some m47 := by kernel_rfl
theorem r47 : resOK prog.P (Go.Proofs.Tryz.f47).results.toList = true := by kernel_rfl
def lv51 : List (Nat × List Nat) := [(0, [1, 2]), (1, [1, 2]), (2, [1, 2, 10]), (3, [4]), (4, [1]), (5, [1, 16]), (6, [4]), (7, [4])]
def m51 : MC :=
  (.seq
 (.reg false [1, 2] [oX 2 (.box (.t 0)),
 oQ 4 (.mov (kI 0))])
 (.seq
 (.reg false [1, 2] [oQ 5 (.fa 1 1 (.t 2)),
 oQ 6 (.ld none (.t 5)),
 oQ 7 (.mov (.t 1)),
 oX 8 (.call 123 [(.t 6), (.t 7)]),
 oQ 1 (.mov (.t 8))])
 (.seq
 (.seq
 (.reg false [1, 2, 10] [oQ 9 (.mov (.t 1)),
 oQ 10 (.bin .lss (.t 9) (kI 0))])
 (.cond (.t 10)
 (.seq
 (.reg false [4] [oQ 4 (.mov (.k (.d (.int .i64 (-1)))))])
 .ret)
 .skip))
 (.seq
 (.reg false [1] [oQ 11 (.fa 4 4 (.t 2)),
 oQ 12 (.ld none (.t 11)),
 oQ 13 (.mov (.t 1)),
 oX 14 (.call 124 [(.t 12), (.t 13)]),
 oQ 1 (.mov (.t 14))])
 (.seq
 (.seq
 (.reg false [1, 16] [oQ 15 (.mov (.t 1)),
 oQ 16 (.bin .lss (.t 15) (kI 0))])
 (.cond (.t 16)
 (.seq
 (.reg false [4] [oQ 4 (.mov (.k (.d (.int .i64 (-1)))))])
 .ret)
 .skip))
 (.seq
 (.reg false [4] [oQ 17 (.mov (.t 1)),
 oQ 4 (.mov (.t 17))])
 .ret))))))
theorem c51 : (Go.Proofs.Tryz.f51).body.bind (comp prog.P (1, (Go.Proofs.Tryz.f51).ntmps) lv51) = some m51 := by kernel_rfl
theorem r51 : resOK prog.P (Go.Proofs.Tryz.f51).results.toList = true := by kernel_rfl
def lv52 : List (Nat × List Nat) := [(0, [1, 2]), (1, [1, 2, 3]), (2, [1, 2, 3]), (3, [1, 2, 3]), (4, [1, 2, 3]), (5, [1, 2, 3]), (6, [2, 3]), (7, [2])]
def m52 : MC :=
  (.seq
 (.reg false [1, 2] [oX 1 (.box (.t 0)),
 oX 2 (.alloc (.st (.cons (.int .i64 0) (.cons (.sl true 4 .nil) (.cons (.int .i64 0) (.cons (.int .i64 0) (.cons (.sl true 1 .nil) .nil)))))))])
 (.seq
 (.reg false [1, 2, 3] [oX 3 (.alloc (.st (.cons (.int .i64 0) (.cons (.sl true 4 .nil) (.cons (.int .i64 0) (.cons (.int .i64 0) (.cons (.sl true 1 .nil) .nil)))))))])
 (.seq
 (.reg false [1, 2, 3] [oQ 4 (.fa 0 0 (.t 1)),
 oQ 5 (.ld none (.t 4)),
 oQ 6 (.fa 0 0 (.t 3)),
 oN (.st 1 (.t 6) (.t 5))])
 (.seq
 (.reg false [1, 2, 3] [oQ 7 (.fa 1 1 (.t 1)),
 oQ 8 (.ld none (.t 7)),
 oX 9 (.call 125 [(.t 8)]),
 oQ 10 (.fa 1 1 (.t 3)),
 oN (.st 1 (.t 10) (.t 9))])
 (.seq
 (.reg false [1, 2, 3] [oQ 11 (.fa 2 2 (.t 1)),
 oQ 12 (.ld none (.t 11)),
 oQ 13 (.fa 2 2 (.t 3)),
 oN (.st 1 (.t 13) (.t 12))])
 (.seq
 (.reg false [1, 2, 3] [oQ 14 (.fa 3 3 (.t 1)),
 oQ 15 (.ld none (.t 14)),
 oQ 16 (.fa 3 3 (.t 3)),
 oN (.st 1 (.t 16) (.t 15))])
 (.seq
 (.reg false [2, 3] [oQ 17 (.fa 4 4 (.t 1)),
 oQ 18 (.ld none (.t 17)),
 oX 19 (.call 126 [(.t 18)]),
 oQ 20 (.fa 4 4 (.t 3)),
 oN (.st 1 (.t 20) (.t 19))])
 (.seq
 (.reg false [2] [oQ 21 (.ldv 5 (.t 3)),
 oN (.st 5 (.t 2) (.t 21))])
 .ret))))))))
theorem c52 : (Go.Proofs.Tryz.f52).body.bind (comp prog.P (1, (Go.Proofs.Tryz.f52).ntmps) lv52) = some m52 := by kernel_rfl
theorem r52 : resOK prog.P (Go.Proofs.Tryz.f52).results.toList = true := by kernel_rfl
def lv53 : List (Nat × List Nat) := [(0, [1, 2]), (1, [1, 2, 3]), (2, [1, 2, 3]), (3, [1, 2, 3]), (4, [1, 2, 3]), (5, [2, 3]), (6, [2])]
def m53 : MC :=
  (.seq
 (.reg false [1, 2] [oX 1 (.box (.t 0)),
 oX 2 (.alloc (.st (.cons (.int .i64 0) (.cons (.int .i64 0) (.cons (.int .i64 0) (.cons (.int .i64 0) .nil))))))])
 (.seq
 (.reg false [1, 2, 3] [oX 3 (.alloc (.st (.cons (.int .i64 0) (.cons (.int .i64 0) (.cons (.int .i64 0) (.cons (.int .i64 0) .nil))))))])
 (.seq
 (.reg false [1, 2, 3] [oQ 4 (.fa 0 0 (.t 1)),
 oQ 5 (.ld none (.t 4)),
 oQ 6 (.fa 0 0 (.t 3)),
 oN (.st 1 (.t 6) (.t 5))])
 (.seq
 (.reg false [1, 2, 3] [oQ 7 (.fa 1 1 (.t 1)),
 oQ 8 (.ld none (.t 7)),
 oQ 9 (.fa 1 1 (.t 3)),
 oN (.st 1 (.t 9) (.t 8))])
 (.seq
 (.reg false [1, 2, 3] [oQ 10 (.fa 2 2 (.t 1)),
 oQ 11 (.ld none (.t 10)),
 oQ 12 (.fa 2 2 (.t 3)),
 oN (.st 1 (.t 12) (.t 11))])
 (.seq
 (.reg false [2, 3] [oQ 13 (.fa 3 3 (.t 1)),
 oQ 14 (.ld none (.t 13)),
 oQ 15 (.fa 3 3 (.t 3)),
 oN (.st 1 (.t 15) (.t 14))])
 (.seq
 (.reg false [2] [oQ 16 (.ld (some 4) (.t 3)),
 oN (.st 4 (.t 2) (.t 16))])
 .ret)))))))
theorem c53 : (Go.Proofs.Tryz.f53).body.bind (comp prog.P (1, (Go.Proofs.Tryz.f53).ntmps) lv53) = some m53 := by kernel_rfl
theorem r53 : resOK prog.P (Go.Proofs.Tryz.f53).results.toList = true := by kernel_rfl
def lv54 : List (Nat × List Nat) := [(0, [2, 3]), (1, [2, 3, 9]), (2, [4]), (3, [2, 3, 15]), (4, [4]), (5, [2, 3, 20]), (6, [4]), (7, [2, 3, 25]), (8, [4]), (9, [31]), (10, [4]), (11, [4])]
def m54 : MC :=
  (.seq
 (.reg false [2, 3] [oX 2 (.box (.t 0)),
 oX 3 (.box (.t 1)),
 oQ 4 (.mov (kB false))])
 (.seq
 (.seq
 (.reg false [2, 3, 9] [oQ 5 (.fa 0 0 (.t 2)),
 oQ 6 (.ld none (.t 5)),
 oQ 7 (.fa 0 0 (.t 3)),
 oQ 8 (.ld none (.t 7)),
 oQ 9 (.bin .neq (.t 6) (.t 8))])
 (.cond (.t 9)
 (.seq
 (.reg false [4] [oQ 4 (.mov (kB false))])
 .ret)
 .skip))
 (.seq
 (.seq
 (.reg false [2, 3, 15] [oQ 10 (.fa 1 1 (.t 2)),
 oQ 11 (.ld none (.t 10)),
 oQ 12 (.fa 1 1 (.t 3)),
 oQ 13 (.ld none (.t 12)),
 oX 14 (.call 127 [(.t 11), (.t 13)]),
 oQ 15 (.un .not (.t 14))])
 (.cond (.t 15)
 (.seq
 (.reg false [4] [oQ 4 (.mov (kB false))])
 .ret)
 .skip))
 (.seq
 (.seq
 (.reg false [2, 3, 20] [oQ 16 (.fa 2 2 (.t 2)),
 oQ 17 (.ld none (.t 16)),
 oQ 18 (.fa 2 2 (.t 3)),
 oQ 19 (.ld none (.t 18)),
 oQ 20 (.bin .neq (.t 17) (.t 19))])
 (.cond (.t 20)
 (.seq
 (.reg false [4] [oQ 4 (.mov (kB false))])
 .ret)
 .skip))
 (.seq
 (.seq
 (.reg false [2, 3, 25] [oQ 21 (.fa 3 3 (.t 2)),
 oQ 22 (.ld none (.t 21)),
 oQ 23 (.fa 3 3 (.t 3)),
 oQ 24 (.ld none (.t 23)),
 oQ 25 (.bin .neq (.t 22) (.t 24))])
 (.cond (.t 25)
 (.seq
 (.reg false [4] [oQ 4 (.mov (kB false))])
 .ret)
 .skip))
 (.seq
 (.seq
 (.reg false [31] [oQ 26 (.fa 4 4 (.t 2)),
 oQ 27 (.ld none (.t 26)),
 oQ 28 (.fa 4 4 (.t 3)),
 oQ 29 (.ld none (.t 28)),
 oX 30 (.call 17 [(.t 27), (.t 29)]),
 oQ 31 (.un .not (.t 30))])
 (.cond (.t 31)
 (.seq
 (.reg false [4] [oQ 4 (.mov (kB false))])
 .ret)
 .skip))
 (.seq
 (.reg false [4] [oQ 4 (.mov (kB true))])
 .ret)))))))
theorem c54 : (Go.Proofs.Tryz.f54).body.bind (comp prog.P (2, (Go.Proofs.Tryz.f54).ntmps) lv54) = some m54 := by kernel_rfl
theorem r54 : resOK prog.P (Go.Proofs.Tryz.f54).results.toList = true := by kernel_rfl
def lv55 : List (Nat × List Nat) := [(0, [0, 1, 2]), (1, [0, 1, 2]), (2, [0, 1]), (3, [0, 4])]
def m55 : MC :=
  (.seq
 (.reg false [0, 1, 2] [oX 2 (.box (.t 0)),
 oQ 4 (.mov (kI 0))])
 (.seq
 (.reg false [0, 1, 2] [oQ 5 (.fa 1 1 (.t 2)),
 oQ 6 (.ld none (.t 5)),
 oQ 7 (.mov (.t 1)),
 oX 8 (.call 128 [(.t 6), (.t 7)]),
 oQ 1 (.mov (.t 8))])
 (.seq
 (.reg false [0, 1] [oQ 9 (.fa 4 4 (.t 2)),
 oQ 10 (.ld none (.t 9)),
 oQ 11 (.mov (.t 1)),
 oX 12 (.call 20 [(.t 10), (.t 11)]),
 oQ 1 (.mov (.t 12))])
 (.seq
 (.reg false [0, 4] [oQ 13 (.mov (.t 1)),
 oQ 4 (.mov (.t 13))])
 .ret))))
theorem c55 : (Go.Proofs.Tryz.f55).body.bind (comp prog.P (1, (Go.Proofs.Tryz.f55).ntmps) lv55) = some m55 := by kernel_rfl
theorem r55 : resOK prog.P (Go.Proofs.Tryz.f55).results.toList = true := by kernel_rfl
def lv56 : List (Nat × List Nat) := [(0, [1, 2]), (1, [1, 2]), (2, [1, 2, 10]), (3, [4]), (4, [1]), (5, [1, 16]), (6, [4]), (7, [4])]
def m56 : MC :=
  (.seq
 (.reg false [1, 2] [oX 2 (.box (.t 0)),
 oQ 4 (.mov (kI 0))])
 (.seq
 (.reg false [1, 2] [oQ 5 (.fa 1 1 (.t 2)),
 oQ 6 (.ld none (.t 5)),
 oQ 7 (.mov (.t 1)),
 oX 8 (.call 129 [(.t 6), (.t 7)]),
 oQ 1 (.mov (.t 8))])
 (.seq
 (.seq
 (.reg false [1, 2, 10] [oQ 9 (.mov (.t 1)),
 oQ 10 (.bin .lss (.t 9) (kI 0))])
 (.cond (.t 10)
 (.seq
 (.reg false [4] [oQ 4 (.mov (.k (.d (.int .i64 (-1)))))])
 .ret)
 .skip))
 (.seq
 (.reg false [1] [oQ 11 (.fa 4 4 (.t 2)),
 oQ 12 (.ld none (.t 11)),
 oQ 13 (.mov (.t 1)),
 oX 14 (.call 21 [(.t 12), (.t 13)]),
 oQ 1 (.mov (.t 14))])
 (.seq
 (.seq
 (.reg false [1, 16] [oQ 15 (.mov (.t 1)),
 oQ 16 (.bin .lss (.t 15) (kI 0))])
 (.cond (.t 16)
 (.seq
 (.reg false [4] [oQ 4 (.mov (.k (.d (.int .i64 (-1)))))])
 .ret)
 .skip))
 (.seq
 (.reg false [4] [oQ 17 (.mov (.t 1)),
 oQ 4 (.mov (.t 17))])
 .ret))))))
theorem c56 : (Go.Proofs.Tryz.f56).body.bind (comp prog.P (1, (Go.Proofs.Tryz.f56).ntmps) lv56) = some m56 := by kernel_rfl
theorem r56 : resOK prog.P (Go.Proofs.Tryz.f56).results.toList = true := by kernel_rfl
def lv57 : List (Nat × List Nat) := [(0, [0, 1]), (1, [1]), (2, [1, 10]), (3, [4]), (4, [4])]
def m57 : MC :=
  (.seq
 (.reg false [0, 1] [oQ 4 (.mov (kI 0))])
 (.seq
 (.reg false [1] [oQ 5 (.mov (.t 1)),
 oQ 6 (.mov (.t 0)),
 oQ 7 (.len false (.t 6)),
 oQ 8 (.bin .sub (.t 5) (.t 7)),
 oQ 1 (.mov (.t 8))])
 (.seq
 (.seq
 (.reg false [1, 10] [oQ 9 (.mov (.t 1)),
 oQ 10 (.bin .lss (.t 9) (kI 0))])
 (.cond (.t 10)
 (.seq
 (.reg false [4] [oQ 4 (.mov (.k (.d (.int .i64 (-1)))))])
 .ret)
 .skip))
 (.seq
 (.reg false [4] [oQ 11 (.mov (.t 1)),
 oQ 4 (.mov (.t 11))])
 .ret))))
theorem c57 : (Go.Proofs.Tryz.f57).body.bind (comp prog.P (1, (Go.Proofs.Tryz.f57).ntmps) lv57) = some m57 := by kernel_rfl
theorem r57 : resOK prog.P (Go.Proofs.Tryz.f57).results.toList = true := by kernel_rfl
def lv58 : List (Nat × List Nat) := [(0, [0]), (1, [0, 3]), (2, [0, 3, 4]), (3, [0, 3, 4, 11]), (4, [0, 3, 4]), (5, [0, 3, 4]), (6, [2])]
def m58 : MC :=
  (.seq
 (.reg false [0] [oQ 2 (.mov (.k .nil))])
 (.seq
 (.reg false [0, 3] [oQ 5 (.mov (.t 0)),
 oQ 6 (.len false (.t 5)),
 oX 7 (.mk 4 32 (.st (.cons (.int .i64 0) (.cons (.int .i64 0) (.cons (.int .i64 0) (.cons (.int .i64 0) .nil))))) (.t 6)),
 oQ 3 (.mov (.t 7))])
 (.seq
 (.seq
 (.reg false [0, 3, 4] [oQ 4 (.mov (kI 0))])
 (.block 0
 (.loop
 (.seq
 (.seq
 (.reg false [0, 3, 4, 11] [oQ 8 (.mov (.t 4)),
 oQ 9 (.mov (.t 0)),
 oQ 10 (.len false (.t 9)),
 oQ 11 (.bin .lss (.t 8) (.t 10))])
 (.cond (.t 11)
 .skip
 (.exit 0)))
 (.seq
 (.block 1
 (.reg false [0, 3, 4] [oQ 14 (.mov (.t 3)),
 oQ 15 (.mov (.t 4)),
 oQ 16 (.mov (.t 0)),
 oQ 17 (.mov (.t 4)),
 oQ 18 (.ia 4 (.t 16) (.t 17)),
 oQ 19 (.ld (some 4) (.t 18)),
 oX 20 (.call 53 [(.t 19)]),
 oQ 21 (.ia 4 (.t 14) (.t 15)),
 oN (.st 4 (.t 21) (.t 20))]))
 (.reg false [0, 3, 4] [oQ 12 (.mov (.t 4)),
 oQ 13 (.bin .add (.t 12) (kI 1)),
 oQ 4 (.mov (.t 13))]))))))
 (.seq
 (.reg false [2] [oQ 22 (.mov (.t 3)),
 oQ 2 (.mov (.t 22))])
 .ret))))
theorem c58 : (Go.Proofs.Tryz.f58).body.bind (comp prog.P (1, (Go.Proofs.Tryz.f58).ntmps) lv58) = some m58 := by kernel_rfl
theorem r58 : resOK prog.P (Go.Proofs.Tryz.f58).results.toList = true := by kernel_rfl
def lv59 : List (Nat × List Nat) := [(0, [0, 1]), (1, [0, 1, 10]), (2, [4]), (3, [0, 1, 5]), (4, [0, 1, 5, 14]), (5, [0, 1, 5]), (6, [0, 1, 5, 26]), (7, [4]), (8, [4])]
def m59 : MC :=
  (.seq
 (.reg false [0, 1] [oQ 4 (.mov (kB false))])
 (.seq
 (.seq
 (.reg false [0, 1, 10] [oQ 6 (.mov (.t 0)),
 oQ 7 (.len false (.t 6)),
 oQ 8 (.mov (.t 1)),
 oQ 9 (.len false (.t 8)),
 oQ 10 (.bin .neq (.t 7) (.t 9))])
 (.cond (.t 10)
 (.seq
 (.reg false [4] [oQ 4 (.mov (kB false))])
 .ret)
 .skip))
 (.seq
 (.seq
 (.reg false [0, 1, 5] [oQ 5 (.mov (kI 0))])
 (.block 0
 (.loop
 (.seq
 (.seq
 (.reg false [0, 1, 5, 14] [oQ 11 (.mov (.t 5)),
 oQ 12 (.mov (.t 0)),
 oQ 13 (.len false (.t 12)),
 oQ 14 (.bin .lss (.t 11) (.t 13))])
 (.cond (.t 14)
 .skip
 (.exit 0)))
 (.seq
 (.block 1
 (.seq
 (.reg true [0, 1, 5, 26] [oQ 17 (.mov (.t 0)),
 oQ 18 (.mov (.t 5)),
 oQ 19 (.ia 4 (.t 17) (.t 18)),
 oQ 20 (.ld (some 4) (.t 19)),
 oQ 21 (.mov (.t 1)),
 oQ 22 (.mov (.t 5)),
 oQ 23 (.ia 4 (.t 21) (.t 22)),
 oQ 24 (.ld (some 4) (.t 23)),
 oQ 25 (.callP 130 [(.t 20), (.t 24)]),
 oQ 26 (.un .not (.t 25))])
 (.cond (.t 26)
 (.seq
 (.reg false [4] [oQ 4 (.mov (kB false))])
 .ret)
 .skip)))
 (.reg false [0, 1, 5] [oQ 15 (.mov (.t 5)),
 oQ 16 (.bin .add (.t 15) (kI 1)),
 oQ 5 (.mov (.t 16))]))))))
 (.seq
 (.reg false [4] [oQ 4 (.mov (kB true))])
 .ret))))
theorem c59 : (Go.Proofs.Tryz.f59).body.bind (comp prog.P (2, (Go.Proofs.Tryz.f59).ntmps) lv59) = some m59 := by kernel_rfl
theorem r59 : resOK prog.P (Go.Proofs.Tryz.f59).results.toList = true := by kernel_rfl
def lv60 : List (Nat × List Nat) := [(0, [0, 1]), (1, [0, 1, 5]), (2, [0, 1, 5, 9]), (3, [0, 1, 5]), (4, [0, 1, 5]), (5, [0, 1, 5]), (6, [0, 1, 5]), (7, [0, 1, 5]), (8, [0, 1, 5]), (9, [0, 1, 5]), (10, [0, 1, 5]), (11, [0, 1, 5]), (12, [0, 4])]
def m60 : MC :=
  (.seq
 (.reg false [0, 1] [oQ 4 (.mov (kI 0))])
 (.seq
 (.seq
 (.reg false [0, 1, 5] [oQ 5 (.mov (kI 0))])
 (.block 0
 (.loop
 (.seq
 (.seq
 (.reg false [0, 1, 5, 9] [oQ 6 (.mov (.t 5)),
 oQ 7 (.mov (.t 0)),
 oQ 8 (.len false (.t 7)),
 oQ 9 (.bin .lss (.t 6) (.t 8))])
 (.cond (.t 9)
 .skip
 (.exit 0)))
 (.seq
 (.block 1
 (.seq
 (.reg false [0, 1, 5] [oQ 12 (.mov (.t 0)),
 oQ 13 (.mov (.t 5)),
 oQ 14 (.mov (.t 1)),
 oQ 15 (.ia 4 (.t 12) (.t 13)),
 oQ 16 (.fa 0 0 (.t 15)),
 oN (.st 1 (.t 16) (.t 14))])
 (.seq
 (.reg false [0, 1, 5] [oQ 17 (.mov (.t 1)),
 oQ 18 (.bin .add (.t 17) (kI 1)),
 oQ 1 (.mov (.t 18))])
 (.seq
 (.reg false [0, 1, 5] [oQ 19 (.mov (.t 0)),
 oQ 20 (.mov (.t 5)),
 oQ 21 (.mov (.t 1)),
 oQ 22 (.ia 4 (.t 19) (.t 20)),
 oQ 23 (.fa 1 1 (.t 22)),
 oN (.st 1 (.t 23) (.t 21))])
 (.seq
 (.reg false [0, 1, 5] [oQ 24 (.mov (.t 1)),
 oQ 25 (.bin .add (.t 24) (kI 1)),
 oQ 1 (.mov (.t 25))])
 (.seq
 (.reg false [0, 1, 5] [oQ 26 (.mov (.t 0)),
 oQ 27 (.mov (.t 5)),
 oQ 28 (.mov (.t 1)),
 oQ 29 (.ia 4 (.t 26) (.t 27)),
 oQ 30 (.fa 2 2 (.t 29)),
 oN (.st 1 (.t 30) (.t 28))])
 (.seq
 (.reg false [0, 1, 5] [oQ 31 (.mov (.t 1)),
 oQ 32 (.bin .add (.t 31) (kI 1)),
 oQ 1 (.mov (.t 32))])
 (.seq
 (.reg false [0, 1, 5] [oQ 33 (.mov (.t 0)),
 oQ 34 (.mov (.t 5)),
 oQ 35 (.mov (.t 1)),
 oQ 36 (.ia 4 (.t 33) (.t 34)),
 oQ 37 (.fa 3 3 (.t 36)),
 oN (.st 1 (.t 37) (.t 35))])
 (.reg false [0, 1, 5] [oQ 38 (.mov (.t 1)),
 oQ 39 (.bin .add (.t 38) (kI 1)),
 oQ 1 (.mov (.t 39))])))))))))
 (.reg false [0, 1, 5] [oQ 10 (.mov (.t 5)),
 oQ 11 (.bin .add (.t 10) (kI 1)),
 oQ 5 (.mov (.t 11))]))))))
 (.seq
 (.reg false [0, 4] [oQ 40 (.mov (.t 1)),
 oQ 4 (.mov (.t 40))])
 .ret)))
theorem c60 : (Go.Proofs.Tryz.f60).body.bind (comp prog.P (1, (Go.Proofs.Tryz.f60).ntmps) lv60) = some m60 := by kernel_rfl
theorem r60 : resOK prog.P (Go.Proofs.Tryz.f60).results.toList = true := by kernel_rfl
def lv87 : List (Nat × List Nat) := [(0, [0]), (1, [0, 5]), (2, [2]), (3, [0, 3]), (4, [0, 3, 7]), (5, [0, 3]), (6, [0, 3]), (7, [2])]
def m87 : MC :=
  (.seq
 (.reg false [0] [oQ 2 (.mov (.k (.d (.str []))))])
 (.seq
 (.seq
 (.reg false [0, 5] [oQ 4 (.mov (.t 0)),
 oQ 5 (.bin .leq (.t 4) (kI 0))])
 (.cond (.t 5)
 (.seq
 (.reg false [2] [oQ 2 (.mov (.k (.d (.str [109, 48]))))])
 .ret)
 .skip))
 (.seq
 (.reg false [0, 3] [oQ 3 (.mov (.k (.d (.str []))))])
 (.seq
 (.block 0
 (.loop
 (.seq
 (.seq
 (.reg false [0, 3, 7] [oQ 6 (.mov (.t 0)),
 oQ 7 (.bin .gtr (.t 6) (kI 0))])
 (.cond (.t 7)
 .skip
 (.exit 0)))
 (.block 1
 (.seq
 (.reg false [0, 3] [oQ 8 (.mov (.t 0)),
 oQ 9 (.bin .rem (.t 8) (kI 10)),
 oQ 10 (.bin .add (kI 48) (.t 9)),
 oQ 11 (.conv .u8 (.t 10)),
 oX 12 (.bs 1 1 (.int .u8 0) [(0, (.t 11))]),
 oQ 13 (.b2s (.t 12)),
 oQ 14 (.mov (.t 3)),
 oQ 15 (.bin .add (.t 13) (.t 14)),
 oQ 3 (.mov (.t 15))])
 (.reg false [0, 3] [oQ 16 (.mov (.t 0)),
 oQ 17 (.bin .quo (.t 16) (kI 10)),
 oQ 0 (.mov (.t 17))]))))))
 (.seq
 (.reg false [2] [oQ 18 (.mov (.t 3)),
 oQ 19 (.bin .add (.k (.d (.str [109]))) (.t 18)),
 oQ 2 (.mov (.t 19))])
 .ret)))))
theorem c87 : (Go.Proofs.Tryz.f87).body.bind (comp prog.P (0, (Go.Proofs.Tryz.f87).ntmps) lv87) = some m87 := by kernel_rfl
theorem r87 : resOK prog.P (Go.Proofs.Tryz.f87).results.toList = true := by kernel_rfl
def lv105 : List (Nat × List Nat) := [(0, [0, 1, 2]), (1, [6])]
def m105 : MC :=
  (.seq
 (.reg false [0, 1, 2] [oQ 6 (.mov (kB false))])
 (.seq
 (.reg false [6] [oQ 7 (.mov (.t 1)),
 oQ 8 (.mov (.t 0)),
 oQ 9 (.bin .leq (.t 7) (.t 8)),
 oQ 10 (.mov (.t 9)),
 oG 11 10 true (.mov (.t 0)),
 oG 12 10 true (.mov (.t 2)),
 oG 13 10 true (.bin .leq (.t 11) (.t 12)),
 oQ 14 (.pick (.t 10) (.t 13) (kB false)),
 oQ 6 (.mov (.t 14))])
 .ret))
theorem c105 : (Go.Proofs.Tryz.f105).body.bind (comp prog.P (3, (Go.Proofs.Tryz.f105).ntmps) lv105) = some m105 := by kernel_rfl
theorem r105 : resOK prog.P (Go.Proofs.Tryz.f105).results.toList = true := by kernel_rfl
def lv109 : List (Nat × List Nat) := [(0, [1, 2]), (1, [1, 2]), (2, [1, 2, 10, 11]), (3, [1, 2, 10, 11, 12]), (4, [1, 2, 3, 10, 11]), (5, [1, 2, 10, 11]), (6, [1, 2, 10, 11]), (7, [1, 2]), (8, [2]), (1000005, [1, 12, 1, 0, 1, 1, 1, 2, 1, 3, 1, 4, 1, 5, 1, 6, 1, 7, 1, 8, 2, 9, 1, 10, 1, 11, 2, 12, 0])]
def m109 : MC :=
  (.seq
 (.reg false [1, 2] [oX 1 (.box (.t 0)),
 oX 2 (.alloc (.st (.cons (.int .i64 0) (.cons (.sl true 4 .nil) (.cons (.int .i64 0) (.cons (.int .i64 0) (.cons (.sl true 1 .nil) .nil)))))))])
 (.seq
 (.reg false [1, 2] [oQ 4 (.fa 1 1 (.t 1)),
 oQ 5 (.ld none (.t 4)),
 oX 6 (.call 170 [(.t 5)]),
 oQ 7 (.fa 1 1 (.t 1)),
 oN (.st 1 (.t 7) (.t 6))])
 (.seq
 (.seq
 (.reg false [1, 2, 10, 11] [oQ 8 (.fa 1 1 (.t 1)),
 oQ 9 (.ld none (.t 8)),
 oQ 10 (.len false (.t 9)),
 oQ 11 (.mov (kI 0))])
 (.block 0
 (.loop
 (.seq
 (.reg false [1, 2, 10, 11, 12] [oQ 12 (.bin .lss (.t 11) (.t 10))])
 (.seq
 (.cond (.t 12)
 .skip
 (.exit 0))
 (.seq
 (.block 1
 (.seq
 (.reg false [1, 2, 3, 10, 11] [oQ 13 (.mov (.t 11)),
 oQ 3 (.mov (.t 13))])
 (.any [12] [1, 2, 10, 11] (.q 0 (oQ 14 (.fa 1 1 (.t 1))) (.q 1 (oQ 15 (.ld none (.t 14))) (.q 2 (oQ 16 (.mov (.t 3))) (.q 3 (oQ 17 (.fa 1 1 (.t 1))) (.q 4 (oQ 18 (.ld none (.t 17))) (.q 5 (oQ 19 (.mov (.t 3))) (.q 6 (oQ 20 (.ia 4 (.t 18) (.t 19))) (.q 7 (oQ 21 (.fa 3 3 (.t 20))) (.q 8 (oQ 22 (.ld none (.t 21))) (.e 9 (oX 23 (.call 171 [(.t 22)])) (.q 10 (oQ 24 (.ia 4 (.t 15) (.t 16))) (.q 11 (oQ 25 (.fa 3 3 (.t 24))) (.e 12 (oN (.st 1 (.t 25) (.t 23))) .done))))))))))))))))
 (.reg false [1, 2, 10, 11] [oQ 26 (.bin .add (.t 11) (kI 1)),
 oQ 11 (.mov (.t 26))])))))))
 (.seq
 (.reg false [1, 2] [oQ 27 (.fa 4 4 (.t 1)),
 oQ 28 (.ld none (.t 27)),
 oX 29 (.call 172 [(.t 28)]),
 oQ 30 (.fa 4 4 (.t 1)),
 oN (.st 1 (.t 30) (.t 29))])
 (.seq
 (.reg false [2] [oQ 31 (.ldv 5 (.t 1)),
 oN (.st 5 (.t 2) (.t 31))])
 .ret)))))
theorem c109 : (Go.Proofs.Tryz.f109).body.bind (comp prog.P (1, (Go.Proofs.Tryz.f109).ntmps) lv109) = some m109 := by kernel_rfl
theorem r109 : resOK prog.P (Go.Proofs.Tryz.f109).results.toList = true := by kernel_rfl
def lv110 : List (Nat × List Nat) := [(0, [0, 3]), (1, [0, 3, 5]), (2, [0, 3, 5, 13]), (3, [0, 3, 18]), (4, [0, 4]), (5, [0, 3, 6]), (6, [0, 3, 6, 38]), (7, [0, 3, 6]), (8, [0]), (9, [0, 4]), (10, [0, 3, 5, 63]), (11, [0, 4]), (12, [0, 3, 5, 67]), (13, [0, 3]), (14, [0, 4]), (15, [0, 3, 5, 88]), (16, [0, 4]), (17, [0, 4]), (1000008, [1, 22, 1, 0, 1, 1, 1, 2, 1, 3, 1, 4, 1, 5, 1, 6, 1, 7, 1, 8, 1, 9, 1, 10, 1, 11, 1, 12, 1, 13, 1, 14, 1, 15, 1, 16, 2, 17, 2, 18, 2, 19, 1, 20, 1, 21, 2, 22, 0]), (1000013, [1, 9, 1, 0, 1, 1, 1, 2, 1, 3, 1, 4, 1, 5, 1, 6, 1, 7, 1, 8, 2, 9, 0])]
def m110 : MC :=
  (.seq
 (.reg false [0, 3] [oX 3 (.box (.t 1)),
 oQ 4 (.mov (kB false))])
 (.seq
 (.reg true [0, 3, 5] [oQ 7 (.mov (.t 0)),
 oQ 8 (.nck (.t 7)),
 oQ 9 (.ldv 5 (.t 8)),
 oQ 10 (.fa 1 1 (.t 3)),
 oQ 11 (.ld none (.t 10)),
 oQ 12 (.callP 140 [(.t 9), (.t 11)]),
 oQ 5 (.mov (.t 12))])
 (.seq
 (.block 0
 (.seq
 (.reg false [0, 3, 5, 13] [oQ 14 (.fa 0 0 (.t 3)),
 oQ 15 (.ld none (.t 14)),
 oQ 16 (.bin .eql (.t 15) (kI 2)),
 oQ 13 (.mov (.t 16))])
 (.cond (.t 13)
 (.seq
 (.seq
 (.reg false [0, 3, 18] [oQ 17 (.mov (.t 5)),
 oQ 18 (.bin .geq (.t 17) (kI 0))])
 (.cond (.t 18)
 (.seq
 (.reg false [0, 4] [oQ 4 (.mov (kB false))])
 .ret)
 .skip))
 (.seq
 (.reg false [0, 3, 6] [oQ 6 (.mov (kI 0))])
 (.seq
 (.block 1
 (.loop
 (.seq
 (.seq
 (.reg true [0, 3, 6, 38] [oQ 19 (.mov (.t 6)),
 oQ 20 (.mov (.t 0)),
 oQ 21 (.nck (.t 20)),
 oQ 22 (.fa 1 1 (.t 21)),
 oQ 23 (.ld none (.t 22)),
 oQ 24 (.len false (.t 23)),
 oQ 25 (.bin .lss (.t 19) (.t 24)),
 oQ 26 (.mov (.t 25)),
 oG 27 26 true (.mov (.t 0)),
 oG 28 26 true (.nck (.t 27)),
 oG 29 26 true (.fa 1 1 (.t 28)),
 oG 30 26 true (.ld none (.t 29)),
 oG 31 26 true (.mov (.t 6)),
 oG 32 26 true (.ia 4 (.t 30) (.t 31)),
 oG 33 26 true (.fa 0 0 (.t 32)),
 oG 34 26 true (.ld none (.t 33)),
 oG 35 26 true (.fa 1 1 (.t 3)),
 oG 36 26 true (.ld none (.t 35)),
 oG 37 26 true (.bin .lss (.t 34) (.t 36)),
 oQ 38 (.pick (.t 26) (.t 37) (kB false))])
 (.cond (.t 38)
 .skip
 (.exit 1)))
 (.block 2
 (.reg false [0, 3, 6] [oQ 39 (.mov (.t 6)),
 oQ 40 (.bin .add (.t 39) (kI 1)),
 oQ 6 (.mov (.t 40))])))))
 (.seq
 (.any [22] [0] (.q 0 (oQ 41 (.mov (.t 0))) (.q 1 (oQ 42 (.mov (.t 0))) (.q 2 (oQ 43 (.nck (.t 42))) (.q 3 (oQ 44 (.fa 1 1 (.t 43))) (.q 4 (oQ 45 (.ld none (.t 44))) (.q 5 (oQ 46 (.mov (.t 6))) (.q 6 (oQ 47 (.fa 1 1 (.t 3))) (.q 7 (oQ 48 (.ld none (.t 47))) (.q 8 (oQ 49 (.fa 2 2 (.t 3))) (.q 9 (oQ 50 (.ld none (.t 49))) (.q 10 (oQ 51 (.mov (.t 0))) (.q 11 (oQ 52 (.nck (.t 51))) (.q 12 (oQ 53 (.fa 0 0 (.t 52))) (.q 13 (oQ 54 (.ld none (.t 53))) (.q 14 (oQ 55 (.fa 3 3 (.t 3))) (.q 15 (oQ 56 (.ld none (.t 55))) (.q 16 (oQ 57 (.bin .add (.t 54) (.t 56))) (.e 17 (oX 58 (.bld (.cons (.int .i64 0) (.cons (.int .i64 0) (.cons (.int .i64 0) (.cons (.sl true 1 .nil) .nil)))) [(0, (.t 48)), (1, (.t 50)), (2, (.t 57))])) (.e 18 (oX 59 (.bs 4 1 (.st (.cons (.int .i64 0) (.cons (.int .i64 0) (.cons (.int .i64 0) (.cons (.sl true 1 .nil) .nil))))) [(0, (.t 58))])) (.e 19 (oX 60 (.call 173 [(.t 45), (.t 46), (.t 59)])) (.q 20 (oQ 61 (.nck (.t 41))) (.q 21 (oQ 62 (.fa 1 1 (.t 61))) (.e 22 (oN (.st 1 (.t 62) (.t 60))) .done))))))))))))))))))))))))
 (.seq
 (.reg false [0, 4] [oQ 4 (.mov (kB true))])
 .ret)))))
 (.seq
 (.reg false [0, 3, 5, 63] [oQ 64 (.fa 2 2 (.t 3)),
 oQ 65 (.ld none (.t 64)),
 oQ 66 (.bin .neq (.t 65) (kI 0)),
 oQ 63 (.mov (.t 66))])
 (.cond (.t 63)
 (.seq
 (.reg false [0, 4] [oQ 4 (.mov (kB false))])
 .ret)
 (.seq
 (.reg false [0, 3, 5, 67] [oQ 68 (.fa 0 0 (.t 3)),
 oQ 69 (.ld none (.t 68)),
 oQ 70 (.bin .eql (.t 69) (kI 1)),
 oQ 67 (.mov (.t 70))])
 (.cond (.t 67)
 (.seq
 (.any [9] [0, 3] (.q 0 (oQ 71 (.mov (.t 0))) (.q 1 (oQ 72 (.nck (.t 71))) (.q 2 (oQ 73 (.fa 0 0 (.t 72))) (.q 3 (oQ 74 (.ld none (.t 73))) (.q 4 (oQ 75 (.fa 3 3 (.t 3))) (.q 5 (oQ 76 (.ld none (.t 75))) (.q 6 (oQ 77 (.bin .add (.t 74) (.t 76))) (.q 7 (oQ 78 (.nck (.t 71))) (.q 8 (oQ 79 (.fa 0 0 (.t 78))) (.e 9 (oN (.st 1 (.t 79) (.t 77))) .done)))))))))))
 (.seq
 (.reg false [0, 4] [oQ 80 (.fa 1 1 (.t 3)),
 oQ 81 (.ld none (.t 80)),
 oQ 82 (.bin .eql (.t 81) (kI 0)),
 oQ 83 (.mov (.t 82)),
 oG 84 83 true (.fa 3 3 (.t 3)),
 oG 85 83 true (.ld none (.t 84)),
 oG 86 83 true (.bin .geq (.t 85) (kI 1)),
 oQ 87 (.pick (.t 83) (.t 86) (kB false)),
 oQ 4 (.mov (.t 87))])
 .ret))
 (.seq
 (.reg false [0, 3, 5, 88] [oQ 89 (.fa 0 0 (.t 3)),
 oQ 90 (.ld none (.t 89)),
 oQ 91 (.bin .eql (.t 90) (kI 4)),
 oQ 88 (.mov (.t 91))])
 (.cond (.t 88)
 (.seq
 (.reg false [0, 4] [oQ 92 (.fa 1 1 (.t 3)),
 oQ 93 (.ld none (.t 92)),
 oQ 94 (.bin .eql (.t 93) (kI 0)),
 oQ 95 (.mov (.t 94)),
 oG 96 95 true (.mov (.t 0)),
 oG 97 95 true (.fa 3 3 (.t 3)),
 oG 98 95 true (.ld none (.t 97)),
 oH 99 95 true (.call 174 [(.t 96), (.t 98)]),
 oQ 100 (.pick (.t 95) (.t 99) (kB false)),
 oQ 4 (.mov (.t 100))])
 .ret)
 .skip)))))))))
 (.seq
 (.reg false [0, 4] [oQ 101 (.mov (.t 5)),
 oQ 102 (.bin .geq (.t 101) (kI 0)),
 oQ 103 (.mov (.t 102)),
 oG 104 103 true (.mov (.t 0)),
 oG 105 103 true (.mov (.t 5)),
 oG 106 103 true (.ld (some 4) (.t 3)),
 oH 107 103 true (.call 175 [(.t 104), (.t 105), (.t 106)]),
 oQ 108 (.pick (.t 103) (.t 107) (kB false)),
 oQ 4 (.mov (.t 108))])
 .ret))))
theorem c110 : (Go.Proofs.Tryz.f110).body.bind (comp prog.P (2, (Go.Proofs.Tryz.f110).ntmps) lv110) = some m110 := by kernel_rfl
theorem r110 : resOK prog.P (Go.Proofs.Tryz.f110).results.toList = true := by kernel_rfl
def lv111 : List (Nat × List Nat) := [(0, [1]), (1, [1, 37]), (2, [2]), (3, [1, 3]), (4, [1, 3, 42]), (5, [1, 3]), (6, [1, 3, 71]), (7, [2]), (8, [2])]
def m111 : MC :=
  (.seq
 (.reg false [1] [oX 1 (.box (.t 0)),
 oQ 2 (.mov (kB false))])
 (.seq
 (.seq
 (.reg false [1, 37] [oQ 4 (.fa 0 0 (.t 1)),
 oQ 5 (.ld none (.t 4)),
 oX 6 (.call 122 [(.t 5)]),
 oQ 7 (.un .not (.t 6)),
 oQ 8 (.mov (.t 7)),
 oG 9 8 false (.fa 1 1 (.t 1)),
 oG 10 8 false (.ld none (.t 9)),
 oG 11 8 false (.len false (.t 10)),
 oG 12 8 false (.bin .gtr (.t 11) (kI 6)),
 oQ 13 (.pick (.t 8) (kB true) (.t 12)),
 oQ 14 (.mov (.t 13)),
 oG 15 14 false (.fa 2 2 (.t 1)),
 oG 16 14 false (.ld none (.t 15)),
 oH 17 14 false (.call 136 [(.t 16), (kI 0), (kI 999)]),
 oG 18 14 false (.un .not (.t 17)),
 oQ 19 (.pick (.t 14) (kB true) (.t 18)),
 oQ 20 (.mov (.t 19)),
 oG 21 20 false (.fa 3 3 (.t 1)),
 oG 22 20 false (.ld none (.t 21)),
 oH 23 20 false (.call 136 [(.t 22), (kI 0), (kI 999)]),
 oG 24 20 false (.un .not (.t 23)),
 oQ 25 (.pick (.t 20) (kB true) (.t 24)),
 oQ 26 (.mov (.t 25)),
 oG 27 26 false (.fa 4 4 (.t 1)),
 oG 28 26 false (.ld none (.t 27)),
 oG 29 26 false (.len false (.t 28)),
 oG 30 26 false (.bin .gtr (.t 29) (kI 0)),
 oG 31 26 false (.mov (.t 30)),
 oG 32 31 true (.fa 4 4 (.t 1)),
 oG 33 31 true (.ld none (.t 32)),
 oH 34 31 true (.call 176 [(.t 33)]),
 oG 35 31 true (.un .not (.t 34)),
 oG 36 26 false (.pick (.t 31) (.t 35) (kB false)),
 oQ 37 (.pick (.t 26) (kB true) (.t 36))])
 (.cond (.t 37)
 (.seq
 (.reg false [2] [oQ 2 (.mov (kB false))])
 .ret)
 .skip))
 (.seq
 (.seq
 (.reg false [1, 3] [oQ 3 (.mov (kI 0))])
 (.block 0
 (.loop
 (.seq
 (.seq
 (.reg false [1, 3, 42] [oQ 38 (.mov (.t 3)),
 oQ 39 (.fa 1 1 (.t 1)),
 oQ 40 (.ld none (.t 39)),
 oQ 41 (.len false (.t 40)),
 oQ 42 (.bin .lss (.t 38) (.t 41))])
 (.cond (.t 42)
 .skip
 (.exit 0)))
 (.seq
 (.block 1
 (.seq
 (.reg true [1, 3, 71] [oQ 45 (.fa 1 1 (.t 1)),
 oQ 46 (.ld none (.t 45)),
 oQ 47 (.mov (.t 3)),
 oQ 48 (.ia 4 (.t 46) (.t 47)),
 oQ 49 (.ld (some 4) (.t 48)),
 oQ 50 (.callP 177 [(.t 49)]),
 oQ 51 (.un .not (.t 50)),
 oQ 52 (.mov (.t 51)),
 oG 53 52 false (.mov (.t 3)),
 oG 54 52 false (.bin .gtr (.t 53) (kI 0)),
 oG 55 52 false (.mov (.t 54)),
 oG 56 55 true (.fa 1 1 (.t 1)),
 oG 57 55 true (.ld none (.t 56)),
 oG 58 55 true (.mov (.t 3)),
 oG 59 55 true (.bin .sub (.t 58) (kI 1)),
 oG 60 55 true (.ia 4 (.t 57) (.t 59)),
 oG 61 55 true (.fa 0 0 (.t 60)),
 oG 62 55 true (.ld none (.t 61)),
 oG 63 55 true (.fa 1 1 (.t 1)),
 oG 64 55 true (.ld none (.t 63)),
 oG 65 55 true (.mov (.t 3)),
 oG 66 55 true (.ia 4 (.t 64) (.t 65)),
 oG 67 55 true (.fa 0 0 (.t 66)),
 oG 68 55 true (.ld none (.t 67)),
 oG 69 55 true (.bin .geq (.t 62) (.t 68)),
 oG 70 52 false (.pick (.t 55) (.t 69) (kB false)),
 oQ 71 (.pick (.t 52) (kB true) (.t 70))])
 (.cond (.t 71)
 (.seq
 (.reg false [2] [oQ 2 (.mov (kB false))])
 .ret)
 .skip)))
 (.reg false [1, 3] [oQ 43 (.mov (.t 3)),
 oQ 44 (.bin .add (.t 43) (kI 1)),
 oQ 3 (.mov (.t 44))]))))))
 (.seq
 (.reg false [2] [oQ 2 (.mov (kB true))])
 .ret))))
theorem c111 : (Go.Proofs.Tryz.f111).body.bind (comp prog.P (1, (Go.Proofs.Tryz.f111).ntmps) lv111) = some m111 := by kernel_rfl
theorem r111 : resOK prog.P (Go.Proofs.Tryz.f111).results.toList = true := by kernel_rfl
def lv112 : List (Nat × List Nat) := [(0, [2, 3]), (1, [3, 5]), (2, [3, 5, 11]), (3, [3, 5, 11, 12]), (4, [4]), (5, [3, 5, 11, 27]), (6, [4]), (7, [3, 5, 11, 46]), (8, [4]), (9, [3, 5, 11, 60]), (10, [4]), (11, [3, 5, 75]), (12, [4]), (13, [4])]
def m112 : MC :=
  (.seq
 (.reg false [2, 3] [oX 2 (.box (.t 0)),
 oX 3 (.box (.t 1)),
 oQ 4 (.mov (kB false))])
 (.seq
 (.reg false [3, 5] [oQ 6 (.ldv 5 (.t 2)),
 oQ 7 (.fa 1 1 (.t 3)),
 oQ 8 (.ld none (.t 7)),
 oX 9 (.call 142 [(.t 6), (.t 8)]),
 oQ 5 (.mov (.t 9))])
 (.seq
 (.seq
 (.reg false [3, 5, 11] [oQ 10 (.fa 0 0 (.t 3)),
 oQ 11 (.ld none (.t 10))])
 (.block 0
 (.seq
 (.reg false [3, 5, 11, 12] [oQ 13 (.bin .eql (.t 11) (kI 1)),
 oQ 12 (.mov (.t 13))])
 (.cond (.t 12)
 (.seq
 (.reg false [4] [oQ 14 (.fa 1 1 (.t 3)),
 oQ 15 (.ld none (.t 14)),
 oQ 16 (.bin .eql (.t 15) (kI 0)),
 oQ 17 (.mov (.t 16)),
 oG 18 17 true (.fa 2 2 (.t 3)),
 oG 19 17 true (.ld none (.t 18)),
 oG 20 17 true (.bin .eql (.t 19) (kI 0)),
 oQ 21 (.pick (.t 17) (.t 20) (kB false)),
 oQ 22 (.mov (.t 21)),
 oG 23 22 true (.fa 3 3 (.t 3)),
 oG 24 22 true (.ld none (.t 23)),
 oG 25 22 true (.bin .geq (.t 24) (kI 1)),
 oQ 26 (.pick (.t 22) (.t 25) (kB false)),
 oQ 4 (.mov (.t 26))])
 .ret)
 (.seq
 (.reg false [3, 5, 11, 27] [oQ 28 (.bin .eql (.t 11) (kI 2)),
 oQ 27 (.mov (.t 28))])
 (.cond (.t 27)
 (.seq
 (.reg false [4] [oQ 29 (.fa 1 1 (.t 3)),
 oQ 30 (.ld none (.t 29)),
 oX 31 (.call 136 [(.t 30), (kI 1), (kI 999)]),
 oQ 32 (.mov (.t 31)),
 oG 33 32 true (.mov (.t 5)),
 oG 34 32 true (.bin .lss (.t 33) (kI 0)),
 oQ 35 (.pick (.t 32) (.t 34) (kB false)),
 oQ 36 (.mov (.t 35)),
 oG 37 36 true (.fa 2 2 (.t 3)),
 oG 38 36 true (.ld none (.t 37)),
 oH 39 36 true (.call 136 [(.t 38), (kI 1), (kI 3)]),
 oQ 40 (.pick (.t 36) (.t 39) (kB false)),
 oQ 41 (.mov (.t 40)),
 oG 42 41 true (.fa 3 3 (.t 3)),
 oG 43 41 true (.ld none (.t 42)),
 oG 44 41 true (.bin .geq (.t 43) (kI 0)),
 oQ 45 (.pick (.t 41) (.t 44) (kB false)),
 oQ 4 (.mov (.t 45))])
 .ret)
 (.seq
 (.reg false [3, 5, 11, 46] [oQ 47 (.bin .eql (.t 11) (kI 3)),
 oQ 46 (.mov (.t 47))])
 (.cond (.t 46)
 (.seq
 (.reg false [4] [oQ 48 (.mov (.t 5)),
 oQ 49 (.bin .geq (.t 48) (kI 0)),
 oQ 50 (.mov (.t 49)),
 oG 51 50 true (.fa 2 2 (.t 3)),
 oG 52 50 true (.ld none (.t 51)),
 oG 53 50 true (.bin .eql (.t 52) (kI 0)),
 oQ 54 (.pick (.t 50) (.t 53) (kB false)),
 oQ 55 (.mov (.t 54)),
 oG 56 55 true (.fa 3 3 (.t 3)),
 oG 57 55 true (.ld none (.t 56)),
 oH 58 55 true (.call 136 [(.t 57), (kI 1), (kI 9)]),
 oQ 59 (.pick (.t 55) (.t 58) (kB false)),
 oQ 4 (.mov (.t 59))])
 .ret)
 (.seq
 (.reg false [3, 5, 11, 60] [oQ 61 (.bin .eql (.t 11) (kI 4)),
 oQ 60 (.mov (.t 61))])
 (.cond (.t 60)
 (.seq
 (.reg false [4] [oQ 62 (.fa 1 1 (.t 3)),
 oQ 63 (.ld none (.t 62)),
 oQ 64 (.bin .eql (.t 63) (kI 0)),
 oQ 65 (.mov (.t 64)),
 oG 66 65 true (.fa 2 2 (.t 3)),
 oG 67 65 true (.ld none (.t 66)),
 oG 68 65 true (.bin .eql (.t 67) (kI 0)),
 oQ 69 (.pick (.t 65) (.t 68) (kB false)),
 oQ 70 (.mov (.t 69)),
 oG 71 70 true (.fa 3 3 (.t 3)),
 oG 72 70 true (.ld none (.t 71)),
 oH 73 70 true (.call 136 [(.t 72), (kI 1), (kI 9)]),
 oQ 74 (.pick (.t 70) (.t 73) (kB false)),
 oQ 4 (.mov (.t 74))])
 .ret)
 (.seq
 (.reg false [3, 5, 75] [oQ 76 (.bin .eql (.t 11) (kI 5)),
 oQ 75 (.mov (.t 76))])
 (.cond (.t 75)
 (.seq
 (.reg false [4] [oQ 77 (.mov (.t 5)),
 oQ 78 (.bin .geq (.t 77) (kI 0)),
 oQ 79 (.mov (.t 78)),
 oG 80 79 true (.fa 2 2 (.t 3)),
 oG 81 79 true (.ld none (.t 80)),
 oG 82 79 true (.bin .eql (.t 81) (kI 0)),
 oQ 83 (.pick (.t 79) (.t 82) (kB false)),
 oQ 84 (.mov (.t 83)),
 oG 85 84 true (.fa 3 3 (.t 3)),
 oG 86 84 true (.ld none (.t 85)),
 oG 87 84 true (.bin .geq (.t 86) (kI 1)),
 oQ 88 (.pick (.t 84) (.t 87) (kB false)),
 oQ 4 (.mov (.t 88))])
 .ret)
 .skip))))))))))))
 (.seq
 (.reg false [4] [oQ 89 (.fa 0 0 (.t 3)),
 oQ 90 (.ld none (.t 89)),
 oQ 91 (.bin .eql (.t 90) (kI 6)),
 oQ 92 (.mov (.t 91)),
 oG 93 92 true (.mov (.t 5)),
 oG 94 92 true (.bin .geq (.t 93) (kI 0)),
 oQ 95 (.pick (.t 92) (.t 94) (kB false)),
 oQ 96 (.mov (.t 95)),
 oG 97 96 true (.fa 2 2 (.t 3)),
 oG 98 96 true (.ld none (.t 97)),
 oG 99 96 true (.bin .eql (.t 98) (kI 0)),
 oQ 100 (.pick (.t 96) (.t 99) (kB false)),
 oQ 101 (.mov (.t 100)),
 oG 102 101 true (.fa 3 3 (.t 3)),
 oG 103 101 true (.ld none (.t 102)),
 oG 104 101 true (.bin .eql (.t 103) (kI 0)),
 oQ 105 (.pick (.t 101) (.t 104) (kB false)),
 oQ 4 (.mov (.t 105))])
 .ret))))
theorem c112 : (Go.Proofs.Tryz.f112).body.bind (comp prog.P (2, (Go.Proofs.Tryz.f112).ntmps) lv112) = some m112 := by kernel_rfl
theorem r112 : resOK prog.P (Go.Proofs.Tryz.f112).results.toList = true := by kernel_rfl
end Go.Pe.Tryz
