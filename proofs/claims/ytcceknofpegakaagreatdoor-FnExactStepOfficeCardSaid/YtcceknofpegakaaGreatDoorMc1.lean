/-
The compact code of the functions that the law reaches, printed by gen.py, each with the proof that the machine's code is compiled to it.
-/
import Derived.Test.YtcceknofpegakaaGreatDoorPeC
import Derived.Lib.ItoaNum
import Derived.Lib.LaidTab
import Derived.Test.YtcceknofpegakaaGreatDoorProg
import Derived.KernelRfl
set_option maxRecDepth 100000
namespace Go.Pe.Tryz
open Go.Pe
theorem tab_stab {P : Program} {n : String} {k : IntKind} {zs : List Int} {g : Nat} (hg : P.globalNamed n = some g) (w w' : World) (_ : w.heap.size ≤ w'.heap.size) (hk : ∀ b, b < w.heap.size → w'.heap[b]? = w.heap[b]?) (h : Go.Lib.TabIs P w n k zs) : Go.Lib.TabIs P w' n k zs := by
  unfold Go.Lib.TabIs World.var? at h ⊢
  rw [hg] at h ⊢
  simp only [Option.bind_some] at h ⊢
  by_cases hb : g < w.heap.size
  · rw [hk g hb]; exact h
  · rw [Array.getElem?_eq_none (by omega)] at h
    simp at h
theorem cell_stab (g : Nat) (w w' : World) (hk : ∀ b, b < w.heap.size → w'.heap[b]? = w.heap[b]?) (h : ∃ m, w.cell? ⟨g, 0, none⟩ = some (.int .i64 m)) : ∃ m, w'.cell? ⟨g, 0, none⟩ = some (.int .i64 m) := by
  obtain ⟨m, h⟩ := h
  by_cases hb : g < w.heap.size
  · refine ⟨m, ?_⟩
    unfold World.cell? at h ⊢
    rw [hk g hb]; exact h
  · have hn : w.heap[g]? = none := Array.getElem?_eq_none (by omega)
    simp [World.cell?, hn] at h
noncomputable def prog : PG := ⟨Go.Proofs.Tryz.prog, fun w => (Go.Lib.TabIs Go.Proofs.Tryz.prog w "internal/strconv.uint64pow10" .u64 Go.Lib.pow10Tab) ∧ (∃ m, w.cell? ⟨0, 0, none⟩ = some (.int .i64 m)), fun w w' hs hk h => ⟨tab_stab (show Go.Proofs.Tryz.prog.globalNamed "internal/strconv.uint64pow10" = some 5 by kernel_rfl) w w' hs hk h.1, cell_stab 0 w w' hk h.2⟩⟩
theorem tabOf {w : World} (h : prog.F w) : Go.Lib.TabIs Go.Proofs.Tryz.prog w "internal/strconv.uint64pow10" .u64 Go.Lib.pow10Tab := h.1
theorem maxOf {w : World} (h : prog.F w) : ∃ m, w.cell? ⟨0, 0, none⟩ = some (.int .i64 m) := h.2
theorem sz35 : sizeOfT prog.P 35 = some 5 := by kernel_rfl
theorem sz62 : sizeOfT prog.P 62 = some 4 := by kernel_rfl
theorem sz140 : sizeOfT prog.P 140 = some 4 := by kernel_rfl
def lv7 : List (Nat × List Nat) := [(0, [2, 3]), (1, [2, 3, 5]), (2, [2, 3, 5]), (3, [2, 3, 20]), (4, [4]), (5, [2, 3, 6, 7]), (6, [2, 3, 6, 7, 8]), (7, [2, 3, 6, 7, 8, 9, 10]), (8, [2, 3, 6, 7, 8, 9, 10, 46]), (9, [4]), (10, [2, 3, 6, 7, 8, 9, 10, 51]), (11, [4]), (12, [2, 3, 6, 7, 8, 9, 10, 11]), (13, [2, 3, 6, 7, 9, 10, 11]), (14, [2, 3, 6, 7, 9, 67]), (15, [4]), (16, [2, 3, 6, 7, 9, 12]), (17, [2, 3, 6, 7, 9, 12]), (18, [2, 3, 6, 7, 9, 12, 13]), (19, [2, 3, 6, 7, 9, 12, 13]), (20, [2, 3, 6, 7, 9, 12, 13, 75]), (21, [4]), (22, [2, 3, 6, 7, 9, 12, 78]), (23, [4]), (24, [6, 7, 9, 12, 14, 15]), (25, [9, 12, 95]), (26, [4]), (27, [9, 12, 13]), (28, [12, 13]), (29, [12, 13, 100]), (30, [4]), (31, [103]), (32, [4]), (33, [4]), (1000005, [2, 9, 10, 1, 2, 3, 2, 0, 3, 2, 1, 3, 2, 3, 3, 2, 4, 1, 5, 1, 6, 1, 7, 2, 8, 2, 9, 2, 10, 0, 2, 8, 2, 4, 1, 5, 1, 6, 1, 7, 2, 9, 2, 10, 0, 2, 8, 2, 3, 2, 4, 1, 5, 1, 6, 1, 7, 2, 9, 2, 10, 0, 2, 8, 2, 1, 2, 3, 2, 4, 1, 5, 1, 6, 1, 7, 2, 9, 2, 10, 0, 2, 8, 2, 0, 2, 1, 2, 3, 2, 4, 1, 5, 1, 6, 1, 7, 2, 9, 2, 10, 0]), (1000007, [2, 8, 9, 1, 1, 3, 2, 0, 3, 2, 2, 3, 2, 3, 1, 4, 1, 5, 1, 6, 2, 7, 2, 8, 2, 9, 0, 2, 7, 2, 3, 1, 4, 1, 5, 1, 6, 2, 8, 2, 9, 0, 2, 7, 2, 2, 2, 3, 1, 4, 1, 5, 1, 6, 2, 8, 2, 9, 0, 3, 2, 2, 3, 2, 0, 3, 2, 3, 1, 4, 1, 5, 1, 6, 2, 7, 2, 8, 2, 9, 0, 2, 7, 2, 3, 1, 4, 1, 5, 1, 6, 2, 8, 2, 9, 0, 2, 7, 2, 0, 2, 3, 1, 4, 1, 5, 1, 6, 2, 8, 2, 9, 0, 2, 7, 3, 2, 0, 2, 2, 2, 3, 1, 4, 1, 5, 1, 6, 2, 8, 2, 9, 0, 2, 2, 2, 0, 2, 3, 1, 4, 1, 5, 1, 6, 2, 8, 2, 9, 0]), (1000024, [2, 9, 10, 1, 2, 3, 2, 0, 3, 2, 1, 3, 2, 3, 3, 2, 4, 1, 5, 1, 6, 1, 7, 2, 8, 2, 9, 2, 10, 0, 2, 8, 2, 4, 1, 5, 1, 6, 1, 7, 2, 9, 2, 10, 0, 2, 8, 2, 3, 2, 4, 1, 5, 1, 6, 1, 7, 2, 9, 2, 10, 0, 2, 8, 2, 1, 2, 3, 2, 4, 1, 5, 1, 6, 1, 7, 2, 9, 2, 10, 0, 2, 8, 2, 0, 2, 1, 2, 3, 2, 4, 1, 5, 1, 6, 1, 7, 2, 9, 2, 10, 0])]
def m7 : MC :=
  (.seq
 (.reg false [2, 3] [oX 2 (.box (.t 0)),
 oX 3 (.box (.t 1)),
 oQ 4 (.mov (kB false))])
 (.seq
 (.reg false [2, 3, 5] [oQ 5 (.mov (kI 1048576))])
 (.seq
 (.reg false [2, 3, 5] [oQ 16 (.ldv 5 (.t 2)),
 oQ 17 (.mov (.t 5)),
 oX 18 (.call 51 [(.t 16), (.t 17)]),
 oQ 5 (.mov (.t 18))])
 (.seq
 (.seq
 (.reg false [2, 3, 20] [oQ 19 (.mov (.t 5)),
 oQ 20 (.bin .lss (.t 19) (kI 0))])
 (.cond (.t 20)
 (.seq
 (.reg false [4] [oQ 4 (.mov (kB true))])
 .ret)
 .skip))
 (.seq
 (.any [9, 10] [2, 3, 6, 7] (.q 2 (oQ 24 (.ld (some 4) (.t 3))) (.br (.e 0 (oQ 22 (.ldv 5 (.t 2))) (.br (.e 1 (oX 23 (.call 52 [(.t 22)])) (.br (.e 3 (oX 25 (.call 53 [(.t 24)])) (.br (.e 4 (oX 26 (.call 38 [(.t 23), (.t 25)])) (.q 5 (oQ 21 (.mov (.t 26))) (.q 6 (oQ 27 (.ext (.t 21) 0)) (.q 7 (oQ 28 (.ext (.t 21) 1)) (.e 8 (oX 6 (.alloc (.st (.cons (.int .i64 0) (.cons (.sl true 4 .nil) (.cons (.int .i64 0) (.cons (.int .i64 0) (.cons (.sl true 1 .nil) .nil)))))))) (.e 9 (oN (.st 5 (.t 6) (.t 27))) (.e 10 (oQ 7 (.mov (.t 28))) .done)))))))
 (.e 8 (oX 6 (.alloc (.st (.cons (.int .i64 0) (.cons (.sl true 4 .nil) (.cons (.int .i64 0) (.cons (.int .i64 0) (.cons (.sl true 1 .nil) .nil)))))))) (.e 4 (oX 26 (.call 38 [(.t 23), (.t 25)])) (.q 5 (oQ 21 (.mov (.t 26))) (.q 6 (oQ 27 (.ext (.t 21) 0)) (.q 7 (oQ 28 (.ext (.t 21) 1)) (.e 9 (oN (.st 5 (.t 6) (.t 27))) (.e 10 (oQ 7 (.mov (.t 28))) .done)))))))))
 (.e 8 (oX 6 (.alloc (.st (.cons (.int .i64 0) (.cons (.sl true 4 .nil) (.cons (.int .i64 0) (.cons (.int .i64 0) (.cons (.sl true 1 .nil) .nil)))))))) (.e 3 (oX 25 (.call 53 [(.t 24)])) (.e 4 (oX 26 (.call 38 [(.t 23), (.t 25)])) (.q 5 (oQ 21 (.mov (.t 26))) (.q 6 (oQ 27 (.ext (.t 21) 0)) (.q 7 (oQ 28 (.ext (.t 21) 1)) (.e 9 (oN (.st 5 (.t 6) (.t 27))) (.e 10 (oQ 7 (.mov (.t 28))) .done))))))))))
 (.e 8 (oX 6 (.alloc (.st (.cons (.int .i64 0) (.cons (.sl true 4 .nil) (.cons (.int .i64 0) (.cons (.int .i64 0) (.cons (.sl true 1 .nil) .nil)))))))) (.e 1 (oX 23 (.call 52 [(.t 22)])) (.e 3 (oX 25 (.call 53 [(.t 24)])) (.e 4 (oX 26 (.call 38 [(.t 23), (.t 25)])) (.q 5 (oQ 21 (.mov (.t 26))) (.q 6 (oQ 27 (.ext (.t 21) 0)) (.q 7 (oQ 28 (.ext (.t 21) 1)) (.e 9 (oN (.st 5 (.t 6) (.t 27))) (.e 10 (oQ 7 (.mov (.t 28))) .done)))))))))))
 (.e 8 (oX 6 (.alloc (.st (.cons (.int .i64 0) (.cons (.sl true 4 .nil) (.cons (.int .i64 0) (.cons (.int .i64 0) (.cons (.sl true 1 .nil) .nil)))))))) (.e 0 (oQ 22 (.ldv 5 (.t 2))) (.e 1 (oX 23 (.call 52 [(.t 22)])) (.e 3 (oX 25 (.call 53 [(.t 24)])) (.e 4 (oX 26 (.call 38 [(.t 23), (.t 25)])) (.q 5 (oQ 21 (.mov (.t 26))) (.q 6 (oQ 27 (.ext (.t 21) 0)) (.q 7 (oQ 28 (.ext (.t 21) 1)) (.e 9 (oN (.st 5 (.t 6) (.t 27))) (.e 10 (oQ 7 (.mov (.t 28))) .done)))))))))))))
 (.seq
 (.reg false [2, 3, 6, 7, 8] [oQ 29 (.ldv 5 (.t 2)),
 oX 30 (.call 52 [(.t 29)]),
 oX 8 (.alloc (.st (.cons (.int .i64 0) (.cons (.sl true 4 .nil) (.cons (.int .i64 0) (.cons (.int .i64 0) (.cons (.sl true 1 .nil) .nil))))))),
 oN (.st 5 (.t 8) (.t 30))])
 (.seq
 (.any [8, 9] [2, 3, 6, 7, 8, 9, 10] (.q 1 (oQ 33 (.ld (some 4) (.t 3))) (.br (.e 0 (oQ 32 (.ldv 5 (.t 8))) (.br (.e 2 (oX 34 (.call 53 [(.t 33)])) (.br (.e 3 (oX 35 (.call 37 [(.t 32), (.t 34)])) (.q 4 (oQ 31 (.mov (.t 35))) (.q 5 (oQ 36 (.ext (.t 31) 0)) (.q 6 (oQ 37 (.ext (.t 31) 1)) (.e 7 (oX 9 (.alloc (.st (.cons (.int .i64 0) (.cons (.sl true 4 .nil) (.cons (.int .i64 0) (.cons (.int .i64 0) (.cons (.sl true 1 .nil) .nil)))))))) (.e 8 (oN (.st 5 (.t 9) (.t 36))) (.e 9 (oQ 10 (.mov (.t 37))) .done)))))))
 (.e 7 (oX 9 (.alloc (.st (.cons (.int .i64 0) (.cons (.sl true 4 .nil) (.cons (.int .i64 0) (.cons (.int .i64 0) (.cons (.sl true 1 .nil) .nil)))))))) (.e 3 (oX 35 (.call 37 [(.t 32), (.t 34)])) (.q 4 (oQ 31 (.mov (.t 35))) (.q 5 (oQ 36 (.ext (.t 31) 0)) (.q 6 (oQ 37 (.ext (.t 31) 1)) (.e 8 (oN (.st 5 (.t 9) (.t 36))) (.e 9 (oQ 10 (.mov (.t 37))) .done)))))))))
 (.e 7 (oX 9 (.alloc (.st (.cons (.int .i64 0) (.cons (.sl true 4 .nil) (.cons (.int .i64 0) (.cons (.int .i64 0) (.cons (.sl true 1 .nil) .nil)))))))) (.e 2 (oX 34 (.call 53 [(.t 33)])) (.e 3 (oX 35 (.call 37 [(.t 32), (.t 34)])) (.q 4 (oQ 31 (.mov (.t 35))) (.q 5 (oQ 36 (.ext (.t 31) 0)) (.q 6 (oQ 37 (.ext (.t 31) 1)) (.e 8 (oN (.st 5 (.t 9) (.t 36))) (.e 9 (oQ 10 (.mov (.t 37))) .done))))))))))
 (.br (.e 2 (oX 34 (.call 53 [(.t 33)])) (.br (.e 0 (oQ 32 (.ldv 5 (.t 8))) (.br (.e 3 (oX 35 (.call 37 [(.t 32), (.t 34)])) (.q 4 (oQ 31 (.mov (.t 35))) (.q 5 (oQ 36 (.ext (.t 31) 0)) (.q 6 (oQ 37 (.ext (.t 31) 1)) (.e 7 (oX 9 (.alloc (.st (.cons (.int .i64 0) (.cons (.sl true 4 .nil) (.cons (.int .i64 0) (.cons (.int .i64 0) (.cons (.sl true 1 .nil) .nil)))))))) (.e 8 (oN (.st 5 (.t 9) (.t 36))) (.e 9 (oQ 10 (.mov (.t 37))) .done)))))))
 (.e 7 (oX 9 (.alloc (.st (.cons (.int .i64 0) (.cons (.sl true 4 .nil) (.cons (.int .i64 0) (.cons (.int .i64 0) (.cons (.sl true 1 .nil) .nil)))))))) (.e 3 (oX 35 (.call 37 [(.t 32), (.t 34)])) (.q 4 (oQ 31 (.mov (.t 35))) (.q 5 (oQ 36 (.ext (.t 31) 0)) (.q 6 (oQ 37 (.ext (.t 31) 1)) (.e 8 (oN (.st 5 (.t 9) (.t 36))) (.e 9 (oQ 10 (.mov (.t 37))) .done)))))))))
 (.e 7 (oX 9 (.alloc (.st (.cons (.int .i64 0) (.cons (.sl true 4 .nil) (.cons (.int .i64 0) (.cons (.int .i64 0) (.cons (.sl true 1 .nil) .nil)))))))) (.e 0 (oQ 32 (.ldv 5 (.t 8))) (.e 3 (oX 35 (.call 37 [(.t 32), (.t 34)])) (.q 4 (oQ 31 (.mov (.t 35))) (.q 5 (oQ 36 (.ext (.t 31) 0)) (.q 6 (oQ 37 (.ext (.t 31) 1)) (.e 8 (oN (.st 5 (.t 9) (.t 36))) (.e 9 (oQ 10 (.mov (.t 37))) .done))))))))))
 (.e 7 (oX 9 (.alloc (.st (.cons (.int .i64 0) (.cons (.sl true 4 .nil) (.cons (.int .i64 0) (.cons (.int .i64 0) (.cons (.sl true 1 .nil) .nil)))))))) (.br (.e 0 (oQ 32 (.ldv 5 (.t 8))) (.e 2 (oX 34 (.call 53 [(.t 33)])) (.e 3 (oX 35 (.call 37 [(.t 32), (.t 34)])) (.q 4 (oQ 31 (.mov (.t 35))) (.q 5 (oQ 36 (.ext (.t 31) 0)) (.q 6 (oQ 37 (.ext (.t 31) 1)) (.e 8 (oN (.st 5 (.t 9) (.t 36))) (.e 9 (oQ 10 (.mov (.t 37))) .done))))))))
 (.e 2 (oX 34 (.call 53 [(.t 33)])) (.e 0 (oQ 32 (.ldv 5 (.t 8))) (.e 3 (oX 35 (.call 37 [(.t 32), (.t 34)])) (.q 4 (oQ 31 (.mov (.t 35))) (.q 5 (oQ 36 (.ext (.t 31) 0)) (.q 6 (oQ 37 (.ext (.t 31) 1)) (.e 8 (oN (.st 5 (.t 9) (.t 36))) (.e 9 (oQ 10 (.mov (.t 37))) .done))))))))))))))
 (.seq
 (.seq
 (.reg false [2, 3, 6, 7, 8, 9, 10, 46] [oQ 38 (.ldv 5 (.t 9)),
 oQ 39 (.ldv 5 (.t 6)),
 oX 40 (.call 54 [(.t 38), (.t 39)]),
 oQ 41 (.un .not (.t 40)),
 oQ 42 (.mov (.t 41)),
 oG 43 42 false (.mov (.t 10)),
 oG 44 42 false (.mov (.t 7)),
 oG 45 42 false (.bb .neq (.t 43) (.t 44)),
 oQ 46 (.pick (.t 42) (kB true) (.t 45))])
 (.cond (.t 46)
 (.seq
 (.reg false [4] [oQ 4 (.mov (kB false))])
 .ret)
 .skip))
 (.seq
 (.seq
 (.reg true [2, 3, 6, 7, 8, 9, 10, 51] [oQ 47 (.ldv 5 (.t 8)),
 oQ 48 (.ldv 5 (.t 2)),
 oQ 49 (.callP 52 [(.t 48)]),
 oQ 50 (.callP 54 [(.t 47), (.t 49)]),
 oQ 51 (.un .not (.t 50))])
 (.cond (.t 51)
 (.seq
 (.reg false [4] [oQ 4 (.mov (kB false))])
 .ret)
 .skip))
 (.seq
 (.reg false [2, 3, 6, 7, 8, 9, 10, 11] [oQ 11 (.mov (kI 1))])
 (.seq
 (.reg false [2, 3, 6, 7, 9, 10, 11] [oQ 52 (.ldv 5 (.t 8)),
 oQ 53 (.mov (.t 11)),
 oX 54 (.call 55 [(.t 52), (.t 53)]),
 oQ 11 (.mov (.t 54))])
 (.seq
 (.seq
 (.reg false [2, 3, 6, 7, 9, 67] [oQ 55 (.mov (.t 11)),
 oQ 56 (.bin .lss (.t 55) (kI 0)),
 oQ 57 (.mov (.t 56)),
 oG 58 57 false (.ldv 5 (.t 9)),
 oG 59 57 false (.ldv 5 (.t 6)),
 oH 60 57 false (.call 54 [(.t 58), (.t 59)]),
 oG 61 57 false (.un .not (.t 60)),
 oQ 62 (.pick (.t 57) (kB true) (.t 61)),
 oQ 63 (.mov (.t 62)),
 oG 64 63 false (.mov (.t 10)),
 oG 65 63 false (.mov (.t 7)),
 oG 66 63 false (.bb .neq (.t 64) (.t 65)),
 oQ 67 (.pick (.t 63) (kB true) (.t 66))])
 (.cond (.t 67)
 (.seq
 (.reg false [4] [oQ 4 (.mov (kB false))])
 .ret)
 .skip))
 (.seq
 (.reg false [2, 3, 6, 7, 9, 12] [oQ 12 (.mov (kI 1))])
 (.seq
 (.reg false [2, 3, 6, 7, 9, 12] [oQ 68 (.ldv 5 (.t 9)),
 oQ 69 (.mov (.t 12)),
 oX 70 (.call 55 [(.t 68), (.t 69)]),
 oQ 12 (.mov (.t 70))])
 (.seq
 (.reg false [2, 3, 6, 7, 9, 12, 13] [oQ 13 (.mov (kI 1))])
 (.seq
 (.reg false [2, 3, 6, 7, 9, 12, 13] [oQ 71 (.ldv 5 (.t 9)),
 oQ 72 (.mov (.t 13)),
 oX 73 (.call 56 [(.t 71), (.t 72)]),
 oQ 13 (.mov (.t 73))])
 (.seq
 (.seq
 (.reg false [2, 3, 6, 7, 9, 12, 13, 75] [oQ 74 (.mov (.t 13)),
 oQ 75 (.bin .lss (.t 74) (kI 0))])
 (.cond (.t 75)
 (.seq
 (.reg false [4] [oQ 4 (.mov (kB false))])
 .ret)
 .skip))
 (.seq
 (.seq
 (.reg false [2, 3, 6, 7, 9, 12, 78] [oQ 76 (.mov (.t 13)),
 oQ 77 (.mov (.t 12)),
 oQ 78 (.bin .neq (.t 76) (.t 77))])
 (.cond (.t 78)
 (.seq
 (.reg false [4] [oQ 4 (.mov (kB false))])
 .ret)
 .skip))
 (.seq
 (.any [9, 10] [6, 7, 9, 12, 14, 15] (.q 2 (oQ 82 (.ld (some 4) (.t 3))) (.br (.e 0 (oQ 80 (.ldv 5 (.t 2))) (.br (.e 1 (oX 81 (.call 52 [(.t 80)])) (.br (.e 3 (oX 83 (.call 53 [(.t 82)])) (.br (.e 4 (oX 84 (.call 37 [(.t 81), (.t 83)])) (.q 5 (oQ 79 (.mov (.t 84))) (.q 6 (oQ 85 (.ext (.t 79) 0)) (.q 7 (oQ 86 (.ext (.t 79) 1)) (.e 8 (oX 14 (.alloc (.st (.cons (.int .i64 0) (.cons (.sl true 4 .nil) (.cons (.int .i64 0) (.cons (.int .i64 0) (.cons (.sl true 1 .nil) .nil)))))))) (.e 9 (oN (.st 5 (.t 14) (.t 85))) (.e 10 (oQ 15 (.mov (.t 86))) .done)))))))
 (.e 8 (oX 14 (.alloc (.st (.cons (.int .i64 0) (.cons (.sl true 4 .nil) (.cons (.int .i64 0) (.cons (.int .i64 0) (.cons (.sl true 1 .nil) .nil)))))))) (.e 4 (oX 84 (.call 37 [(.t 81), (.t 83)])) (.q 5 (oQ 79 (.mov (.t 84))) (.q 6 (oQ 85 (.ext (.t 79) 0)) (.q 7 (oQ 86 (.ext (.t 79) 1)) (.e 9 (oN (.st 5 (.t 14) (.t 85))) (.e 10 (oQ 15 (.mov (.t 86))) .done)))))))))
 (.e 8 (oX 14 (.alloc (.st (.cons (.int .i64 0) (.cons (.sl true 4 .nil) (.cons (.int .i64 0) (.cons (.int .i64 0) (.cons (.sl true 1 .nil) .nil)))))))) (.e 3 (oX 83 (.call 53 [(.t 82)])) (.e 4 (oX 84 (.call 37 [(.t 81), (.t 83)])) (.q 5 (oQ 79 (.mov (.t 84))) (.q 6 (oQ 85 (.ext (.t 79) 0)) (.q 7 (oQ 86 (.ext (.t 79) 1)) (.e 9 (oN (.st 5 (.t 14) (.t 85))) (.e 10 (oQ 15 (.mov (.t 86))) .done))))))))))
 (.e 8 (oX 14 (.alloc (.st (.cons (.int .i64 0) (.cons (.sl true 4 .nil) (.cons (.int .i64 0) (.cons (.int .i64 0) (.cons (.sl true 1 .nil) .nil)))))))) (.e 1 (oX 81 (.call 52 [(.t 80)])) (.e 3 (oX 83 (.call 53 [(.t 82)])) (.e 4 (oX 84 (.call 37 [(.t 81), (.t 83)])) (.q 5 (oQ 79 (.mov (.t 84))) (.q 6 (oQ 85 (.ext (.t 79) 0)) (.q 7 (oQ 86 (.ext (.t 79) 1)) (.e 9 (oN (.st 5 (.t 14) (.t 85))) (.e 10 (oQ 15 (.mov (.t 86))) .done)))))))))))
 (.e 8 (oX 14 (.alloc (.st (.cons (.int .i64 0) (.cons (.sl true 4 .nil) (.cons (.int .i64 0) (.cons (.int .i64 0) (.cons (.sl true 1 .nil) .nil)))))))) (.e 0 (oQ 80 (.ldv 5 (.t 2))) (.e 1 (oX 81 (.call 52 [(.t 80)])) (.e 3 (oX 83 (.call 53 [(.t 82)])) (.e 4 (oX 84 (.call 37 [(.t 81), (.t 83)])) (.q 5 (oQ 79 (.mov (.t 84))) (.q 6 (oQ 85 (.ext (.t 79) 0)) (.q 7 (oQ 86 (.ext (.t 79) 1)) (.e 9 (oN (.st 5 (.t 14) (.t 85))) (.e 10 (oQ 15 (.mov (.t 86))) .done)))))))))))))
 (.seq
 (.seq
 (.reg false [9, 12, 95] [oQ 87 (.ldv 5 (.t 14)),
 oQ 88 (.ldv 5 (.t 6)),
 oX 89 (.call 54 [(.t 87), (.t 88)]),
 oQ 90 (.un .not (.t 89)),
 oQ 91 (.mov (.t 90)),
 oG 92 91 false (.mov (.t 15)),
 oG 93 91 false (.mov (.t 7)),
 oG 94 91 false (.bb .neq (.t 92) (.t 93)),
 oQ 95 (.pick (.t 91) (kB true) (.t 94))])
 (.cond (.t 95)
 (.seq
 (.reg false [4] [oQ 4 (.mov (kB false))])
 .ret)
 .skip))
 (.seq
 (.reg false [9, 12, 13] [oQ 13 (.mov (kI 1))])
 (.seq
 (.reg false [12, 13] [oQ 96 (.ldv 5 (.t 9)),
 oQ 97 (.mov (.t 13)),
 oX 98 (.call 56 [(.t 96), (.t 97)]),
 oQ 13 (.mov (.t 98))])
 (.seq
 (.seq
 (.reg false [12, 13, 100] [oQ 99 (.mov (.t 13)),
 oQ 100 (.bin .lss (.t 99) (kI 0))])
 (.cond (.t 100)
 (.seq
 (.reg false [4] [oQ 4 (.mov (kB false))])
 .ret)
 .skip))
 (.seq
 (.seq
 (.reg false [103] [oQ 101 (.mov (.t 13)),
 oQ 102 (.mov (.t 12)),
 oQ 103 (.bin .neq (.t 101) (.t 102))])
 (.cond (.t 103)
 (.seq
 (.reg false [4] [oQ 4 (.mov (kB false))])
 .ret)
 .skip))
 (.seq
 (.reg false [4] [oQ 4 (.mov (kB true))])
 .ret)))))))))))))))))))))))))
theorem c7 : (Go.Proofs.Tryz.f7).body.bind (comp prog.P (2, (Go.Proofs.Tryz.f7).ntmps) lv7) = some m7 := by kernel_rfl
theorem r7 : resOK prog.P (Go.Proofs.Tryz.f7).results.toList = true := by kernel_rfl
def lv17 : List (Nat × List Nat) := [(0, [0, 1]), (1, [0, 1, 10]), (2, [4]), (3, [0, 1, 5]), (4, [0, 1, 5, 14]), (5, [0, 1, 5]), (6, [0, 1, 5, 25]), (7, [4]), (8, [4])]
def m17 : MC :=
  (.seq
 (.reg false [0, 1] [oQ 4 (.mov (kB false))])
 (.seq
 (.seq
 (.reg false [0, 1, 10] [oQ 6 (.mov (.t 0)),
 oQ 7 (.len false (.t 6)),
 oQ 8 (.mov (.t 1)),
 oQ 9 (.len false (.t 8)),
 oQ 10 (.bin .neq (.t 7) (.t 9))])
 (.cond (.t 10)
 (.seq
 (.reg false [4] [oQ 4 (.mov (kB false))])
 .ret)
 .skip))
 (.seq
 (.seq
 (.reg false [0, 1, 5] [oQ 5 (.mov (kI 0))])
 (.block 0
 (.loop
 (.seq
 (.seq
 (.reg false [0, 1, 5, 14] [oQ 11 (.mov (.t 5)),
 oQ 12 (.mov (.t 0)),
 oQ 13 (.len false (.t 12)),
 oQ 14 (.bin .lss (.t 11) (.t 13))])
 (.cond (.t 14)
 .skip
 (.exit 0)))
 (.seq
 (.block 1
 (.seq
 (.reg true [0, 1, 5, 25] [oQ 17 (.mov (.t 0)),
 oQ 18 (.mov (.t 5)),
 oQ 19 (.ia 1 (.t 17) (.t 18)),
 oQ 20 (.ld none (.t 19)),
 oQ 21 (.mov (.t 1)),
 oQ 22 (.mov (.t 5)),
 oQ 23 (.ia 1 (.t 21) (.t 22)),
 oQ 24 (.ld none (.t 23)),
 oQ 25 (.bin .neq (.t 20) (.t 24))])
 (.cond (.t 25)
 (.seq
 (.reg false [4] [oQ 4 (.mov (kB false))])
 .ret)
 .skip)))
 (.reg false [0, 1, 5] [oQ 15 (.mov (.t 5)),
 oQ 16 (.bin .add (.t 15) (kI 1)),
 oQ 5 (.mov (.t 16))]))))))
 (.seq
 (.reg false [4] [oQ 4 (.mov (kB true))])
 .ret))))
theorem c17 : (Go.Proofs.Tryz.f17).body.bind (comp prog.P (2, (Go.Proofs.Tryz.f17).ntmps) lv17) = some m17 := by kernel_rfl
theorem r17 : resOK prog.P (Go.Proofs.Tryz.f17).results.toList = true := by kernel_rfl
def lv20 : List (Nat × List Nat) := [(0, [0, 1]), (1, [0, 1, 5]), (2, [0, 1, 5, 9]), (3, [0, 1, 5]), (4, [0, 1, 5]), (5, [0, 1, 5]), (6, [0, 4])]
def m20 : MC :=
  (.seq
 (.reg false [0, 1] [oQ 4 (.mov (kI 0))])
 (.seq
 (.seq
 (.reg false [0, 1, 5] [oQ 5 (.mov (kI 0))])
 (.block 0
 (.loop
 (.seq
 (.seq
 (.reg false [0, 1, 5, 9] [oQ 6 (.mov (.t 5)),
 oQ 7 (.mov (.t 0)),
 oQ 8 (.len false (.t 7)),
 oQ 9 (.bin .lss (.t 6) (.t 8))])
 (.cond (.t 9)
 .skip
 (.exit 0)))
 (.seq
 (.block 1
 (.seq
 (.reg false [0, 1, 5] [oQ 12 (.mov (.t 0)),
 oQ 13 (.mov (.t 5)),
 oQ 14 (.mov (.t 1)),
 oX 15 (.call 87 [(.t 14)]),
 oQ 16 (.ia 1 (.t 12) (.t 13)),
 oN (.st 1 (.t 16) (.t 15))])
 (.reg false [0, 1, 5] [oQ 17 (.mov (.t 1)),
 oQ 18 (.bin .add (.t 17) (kI 1)),
 oQ 1 (.mov (.t 18))])))
 (.reg false [0, 1, 5] [oQ 10 (.mov (.t 5)),
 oQ 11 (.bin .add (.t 10) (kI 1)),
 oQ 5 (.mov (.t 11))]))))))
 (.seq
 (.reg false [0, 4] [oQ 19 (.mov (.t 1)),
 oQ 4 (.mov (.t 19))])
 .ret)))
theorem c20 : (Go.Proofs.Tryz.f20).body.bind (comp prog.P (1, (Go.Proofs.Tryz.f20).ntmps) lv20) = some m20 := by kernel_rfl
theorem r20 : resOK prog.P (Go.Proofs.Tryz.f20).results.toList = true := by kernel_rfl
def lv21 : List (Nat × List Nat) := [(0, [0, 1]), (1, [0, 1, 5]), (2, [0, 1, 5, 9]), (3, [0, 1, 5]), (4, [0, 1, 5, 18]), (5, [4]), (6, [0, 1, 5]), (7, [4])]
def m21 : MC :=
  (.seq
 (.reg false [0, 1] [oQ 4 (.mov (kI 0))])
 (.seq
 (.seq
 (.reg false [0, 1, 5] [oQ 5 (.mov (kI 0))])
 (.block 0
 (.loop
 (.seq
 (.seq
 (.reg false [0, 1, 5, 9] [oQ 6 (.mov (.t 5)),
 oQ 7 (.mov (.t 0)),
 oQ 8 (.len false (.t 7)),
 oQ 9 (.bin .lss (.t 6) (.t 8))])
 (.cond (.t 9)
 .skip
 (.exit 0)))
 (.seq
 (.block 1
 (.seq
 (.seq
 (.reg true [0, 1, 5, 18] [oQ 12 (.mov (.t 0)),
 oQ 13 (.mov (.t 5)),
 oQ 14 (.ia 1 (.t 12) (.t 13)),
 oQ 15 (.ld none (.t 14)),
 oQ 16 (.mov (.t 1)),
 oQ 17 (.callP 87 [(.t 16)]),
 oQ 18 (.bin .neq (.t 15) (.t 17))])
 (.cond (.t 18)
 (.seq
 (.reg false [4] [oQ 4 (.mov (.k (.d (.int .i64 (-1)))))])
 .ret)
 .skip))
 (.reg false [0, 1, 5] [oQ 19 (.mov (.t 1)),
 oQ 20 (.bin .add (.t 19) (kI 1)),
 oQ 1 (.mov (.t 20))])))
 (.reg false [0, 1, 5] [oQ 10 (.mov (.t 5)),
 oQ 11 (.bin .add (.t 10) (kI 1)),
 oQ 5 (.mov (.t 11))]))))))
 (.seq
 (.reg false [4] [oQ 21 (.mov (.t 1)),
 oQ 4 (.mov (.t 21))])
 .ret)))
theorem c21 : (Go.Proofs.Tryz.f21).body.bind (comp prog.P (1, (Go.Proofs.Tryz.f21).ntmps) lv21) = some m21 := by kernel_rfl
theorem r21 : resOK prog.P (Go.Proofs.Tryz.f21).results.toList = true := by kernel_rfl
def lv37 : List (Nat × List Nat) := [(0, [2, 3, 4]), (1, [2, 3, 4, 15]), (2, [4, 5]), (3, [3, 4, 6]), (4, [4, 6, 26]), (5, [4, 5]), (6, [4, 5])]
def m37 : MC :=
  (.seq
 (.reg false [2, 3, 4] [oX 2 (.box (.t 0)),
 oX 3 (.box (.t 1)),
 oX 4 (.alloc (.st (.cons (.int .i64 0) (.cons (.sl true 4 .nil) (.cons (.int .i64 0) (.cons (.int .i64 0) (.cons (.sl true 1 .nil) .nil))))))),
 oQ 5 (.mov (kB false))])
 (.seq
 (.seq
 (.reg false [2, 3, 4, 15] [oQ 7 (.ldv 5 (.t 2)),
 oX 8 (.call 40 [(.t 7)]),
 oQ 9 (.un .not (.t 8)),
 oQ 10 (.mov (.t 9)),
 oG 11 10 false (.fa 3 3 (.t 3)),
 oG 12 10 false (.ld none (.t 11)),
 oH 13 10 false (.call 105 [(.t 12), (kI 0), (kI 20000)]),
 oG 14 10 false (.un .not (.t 13)),
 oQ 15 (.pick (.t 10) (kB true) (.t 14))])
 (.cond (.t 15)
 (.seq
 (.reg false [4, 5] [oX 16 (.bld (.cons (.int .i64 0) (.cons (.sl true 4 .nil) (.cons (.int .i64 0) (.cons (.int .i64 0) (.cons (.sl true 1 .nil) .nil))))) []),
 oN (.st 5 (.t 4) (.t 16)),
 oQ 5 (.mov (kB false))])
 .ret)
 .skip))
 (.seq
 (.reg false [3, 4, 6] [oQ 17 (.ldv 5 (.t 2)),
 oX 18 (.call 109 [(.t 17)]),
 oX 6 (.alloc (.st (.cons (.int .i64 0) (.cons (.sl true 4 .nil) (.cons (.int .i64 0) (.cons (.int .i64 0) (.cons (.sl true 1 .nil) .nil))))))),
 oN (.st 5 (.t 6) (.t 18))])
 (.seq
 (.seq
 (.reg false [4, 6, 26] [oQ 19 (.ld (some 4) (.t 3)),
 oX 20 (.call 110 [(.t 6), (.t 19)]),
 oQ 21 (.un .not (.t 20)),
 oQ 22 (.mov (.t 21)),
 oG 23 22 false (.ldv 5 (.t 6)),
 oH 24 22 false (.call 40 [(.t 23)]),
 oG 25 22 false (.un .not (.t 24)),
 oQ 26 (.pick (.t 22) (kB true) (.t 25))])
 (.cond (.t 26)
 (.seq
 (.reg false [4, 5] [oX 27 (.bld (.cons (.int .i64 0) (.cons (.sl true 4 .nil) (.cons (.int .i64 0) (.cons (.int .i64 0) (.cons (.sl true 1 .nil) .nil))))) []),
 oN (.st 5 (.t 4) (.t 27)),
 oQ 5 (.mov (kB false))])
 .ret)
 .skip))
 (.seq
 (.reg false [4, 5] [oQ 28 (.ldv 5 (.t 6)),
 oN (.st 5 (.t 4) (.t 28)),
 oQ 5 (.mov (kB true))])
 .ret)))))
theorem c37 : (Go.Proofs.Tryz.f37).body.bind (comp prog.P (2, (Go.Proofs.Tryz.f37).ntmps) lv37) = some m37 := by kernel_rfl
theorem r37 : resOK prog.P (Go.Proofs.Tryz.f37).results.toList = true := by kernel_rfl
def lv38 : List (Nat × List Nat) := [(0, [2, 3, 4]), (1, [2, 3, 4, 16]), (2, [4, 5]), (3, [4, 6, 7]), (4, [4, 6, 25]), (5, [4, 5]), (6, [4, 5])]
def m38 : MC :=
  (.seq
 (.reg false [2, 3, 4] [oX 2 (.box (.t 0)),
 oX 3 (.box (.t 1)),
 oX 4 (.alloc (.st (.cons (.int .i64 0) (.cons (.sl true 4 .nil) (.cons (.int .i64 0) (.cons (.int .i64 0) (.cons (.sl true 1 .nil) .nil))))))),
 oQ 5 (.mov (kB false))])
 (.seq
 (.seq
 (.reg false [2, 3, 4, 16] [oQ 8 (.ldv 5 (.t 2)),
 oX 9 (.call 111 [(.t 8)]),
 oQ 10 (.un .not (.t 9)),
 oQ 11 (.mov (.t 10)),
 oG 12 11 false (.ldv 5 (.t 2)),
 oG 13 11 false (.ld (some 4) (.t 3)),
 oH 14 11 false (.call 112 [(.t 12), (.t 13)]),
 oG 15 11 false (.un .not (.t 14)),
 oQ 16 (.pick (.t 11) (kB true) (.t 15))])
 (.cond (.t 16)
 (.seq
 (.reg false [4, 5] [oX 17 (.bld (.cons (.int .i64 0) (.cons (.sl true 4 .nil) (.cons (.int .i64 0) (.cons (.int .i64 0) (.cons (.sl true 1 .nil) .nil))))) []),
 oN (.st 5 (.t 4) (.t 17)),
 oQ 5 (.mov (kB false))])
 .ret)
 .skip))
 (.seq
 (.reg false [4, 6, 7] [oQ 19 (.ldv 5 (.t 2)),
 oQ 20 (.ld (some 4) (.t 3)),
 oX 21 (.call 113 [(.t 19), (.t 20)]),
 oQ 18 (.mov (.t 21)),
 oQ 22 (.ext (.t 18) 0),
 oQ 23 (.ext (.t 18) 1),
 oX 6 (.alloc (.st (.cons (.int .i64 0) (.cons (.sl true 4 .nil) (.cons (.int .i64 0) (.cons (.int .i64 0) (.cons (.sl true 1 .nil) .nil))))))),
 oN (.st 5 (.t 6) (.t 22)),
 oQ 7 (.mov (.t 23))])
 (.seq
 (.seq
 (.reg false [4, 6, 25] [oQ 24 (.mov (.t 7)),
 oQ 25 (.un .not (.t 24))])
 (.cond (.t 25)
 (.seq
 (.reg false [4, 5] [oX 26 (.bld (.cons (.int .i64 0) (.cons (.sl true 4 .nil) (.cons (.int .i64 0) (.cons (.int .i64 0) (.cons (.sl true 1 .nil) .nil))))) []),
 oN (.st 5 (.t 4) (.t 26)),
 oQ 5 (.mov (kB false))])
 .ret)
 .skip))
 (.seq
 (.reg false [4, 5] [oQ 27 (.ldv 5 (.t 6)),
 oN (.st 5 (.t 4) (.t 27)),
 oQ 5 (.mov (kB true))])
 .ret)))))
theorem c38 : (Go.Proofs.Tryz.f38).body.bind (comp prog.P (2, (Go.Proofs.Tryz.f38).ntmps) lv38) = some m38 := by kernel_rfl
theorem r38 : resOK prog.P (Go.Proofs.Tryz.f38).results.toList = true := by kernel_rfl
def lv40 : List (Nat × List Nat) := [(0, [1]), (1, [1, 38]), (2, [2]), (3, [1, 40, 41, 42]), (4, [1, 40, 41, 42, 43]), (5, [1, 3, 4, 40, 41, 42]), (6, [1, 40, 41, 42, 65]), (7, [2]), (8, [1, 40, 41, 42]), (9, [2])]
def m40 : MC :=
  (.seq
 (.reg false [1] [oX 1 (.box (.t 0)),
 oQ 2 (.mov (kB false))])
 (.seq
 (.seq
 (.reg false [1, 38] [oQ 5 (.fa 0 0 (.t 1)),
 oQ 6 (.ld none (.t 5)),
 oX 7 (.call 115 [(.t 6)]),
 oQ 8 (.un .not (.t 7)),
 oQ 9 (.mov (.t 8)),
 oG 10 9 false (.fa 1 1 (.t 1)),
 oG 11 9 false (.ld none (.t 10)),
 oG 12 9 false (.len false (.t 11)),
 oG 13 9 false (.bin .gtr (.t 12) (kI 6)),
 oQ 14 (.pick (.t 9) (kB true) (.t 13)),
 oQ 15 (.mov (.t 14)),
 oG 16 15 false (.fa 2 2 (.t 1)),
 oG 17 15 false (.ld none (.t 16)),
 oH 18 15 false (.call 105 [(.t 17), (kI 0), (kI 999)]),
 oG 19 15 false (.un .not (.t 18)),
 oQ 20 (.pick (.t 15) (kB true) (.t 19)),
 oQ 21 (.mov (.t 20)),
 oG 22 21 false (.fa 3 3 (.t 1)),
 oG 23 21 false (.ld none (.t 22)),
 oH 24 21 false (.call 105 [(.t 23), (kI 0), (kI 999)]),
 oG 25 21 false (.un .not (.t 24)),
 oQ 26 (.pick (.t 21) (kB true) (.t 25)),
 oQ 27 (.mov (.t 26)),
 oG 28 27 false (.fa 4 4 (.t 1)),
 oG 29 27 false (.ld none (.t 28)),
 oG 30 27 false (.len false (.t 29)),
 oG 31 27 false (.bin .gtr (.t 30) (kI 0)),
 oG 32 27 false (.mov (.t 31)),
 oG 33 32 true (.fa 4 4 (.t 1)),
 oG 34 32 true (.ld none (.t 33)),
 oH 35 32 true (.call 116 [(.t 34)]),
 oG 36 32 true (.un .not (.t 35)),
 oG 37 27 false (.pick (.t 32) (.t 36) (kB false)),
 oQ 38 (.pick (.t 27) (kB true) (.t 37))])
 (.cond (.t 38)
 (.seq
 (.reg false [2] [oQ 2 (.mov (kB false))])
 .ret)
 .skip))
 (.seq
 (.seq
 (.reg false [1, 40, 41, 42] [oQ 39 (.fa 1 1 (.t 1)),
 oQ 40 (.ld none (.t 39)),
 oQ 41 (.len false (.t 40)),
 oQ 42 (.mov (kI 0))])
 (.block 0
 (.loop
 (.seq
 (.reg false [1, 40, 41, 42, 43] [oQ 43 (.bin .lss (.t 42) (.t 41))])
 (.seq
 (.cond (.t 43)
 .skip
 (.exit 0))
 (.seq
 (.block 1
 (.seq
 (.reg false [1, 3, 4, 40, 41, 42] [oQ 44 (.mov (.t 42)),
 oQ 45 (.ia 4 (.t 40) (.t 42)),
 oQ 46 (.ld (some 4) (.t 45)),
 oX 4 (.alloc (.st (.cons (.int .i64 0) (.cons (.int .i64 0) (.cons (.int .i64 0) (.cons (.sl true 1 .nil) .nil)))))),
 oQ 3 (.mov (.t 44)),
 oN (.st 4 (.t 4) (.t 46))])
 (.seq
 (.reg true [1, 40, 41, 42, 65] [oQ 47 (.ld (some 4) (.t 4)),
 oQ 48 (.callP 117 [(.t 47)]),
 oQ 49 (.un .not (.t 48)),
 oQ 50 (.mov (.t 49)),
 oG 51 50 false (.mov (.t 3)),
 oG 52 50 false (.bin .gtr (.t 51) (kI 0)),
 oG 53 50 false (.mov (.t 52)),
 oG 54 53 true (.fa 1 1 (.t 1)),
 oG 55 53 true (.ld none (.t 54)),
 oG 56 53 true (.mov (.t 3)),
 oG 57 53 true (.bin .sub (.t 56) (kI 1)),
 oG 58 53 true (.ia 4 (.t 55) (.t 57)),
 oG 59 53 true (.fa 0 0 (.t 58)),
 oG 60 53 true (.ld none (.t 59)),
 oG 61 53 true (.fa 0 0 (.t 4)),
 oG 62 53 true (.ld none (.t 61)),
 oG 63 53 true (.bin .geq (.t 60) (.t 62)),
 oG 64 50 false (.pick (.t 53) (.t 63) (kB false)),
 oQ 65 (.pick (.t 50) (kB true) (.t 64))])
 (.cond (.t 65)
 (.seq
 (.reg false [2] [oQ 2 (.mov (kB false))])
 .ret)
 .skip))))
 (.reg false [1, 40, 41, 42] [oQ 66 (.bin .add (.t 42) (kI 1)),
 oQ 42 (.mov (.t 66))])))))))
 (.seq
 (.reg false [2] [oQ 2 (.mov (kB true))])
 .ret))))
theorem c40 : (Go.Proofs.Tryz.f40).body.bind (comp prog.P (1, (Go.Proofs.Tryz.f40).ntmps) lv40) = some m40 := by kernel_rfl
theorem r40 : resOK prog.P (Go.Proofs.Tryz.f40).results.toList = true := by kernel_rfl
def lv51 : List (Nat × List Nat) := [(0, [1, 2]), (1, [1, 2]), (2, [1, 2, 10]), (3, [4]), (4, [1]), (5, [1, 16]), (6, [4]), (7, [4])]
def m51 : MC :=
  (.seq
 (.reg false [1, 2] [oX 2 (.box (.t 0)),
 oQ 4 (.mov (kI 0))])
 (.seq
 (.reg false [1, 2] [oQ 5 (.fa 1 1 (.t 2)),
 oQ 6 (.ld none (.t 5)),
 oQ 7 (.mov (.t 1)),
 oX 8 (.call 123 [(.t 6), (.t 7)]),
 oQ 1 (.mov (.t 8))])
 (.seq
 (.seq
 (.reg false [1, 2, 10] [oQ 9 (.mov (.t 1)),
 oQ 10 (.bin .lss (.t 9) (kI 0))])
 (.cond (.t 10)
 (.seq
 (.reg false [4] [oQ 4 (.mov (.k (.d (.int .i64 (-1)))))])
 .ret)
 .skip))
 (.seq
 (.reg false [1] [oQ 11 (.fa 4 4 (.t 2)),
 oQ 12 (.ld none (.t 11)),
 oQ 13 (.mov (.t 1)),
 oX 14 (.call 124 [(.t 12), (.t 13)]),
 oQ 1 (.mov (.t 14))])
 (.seq
 (.seq
 (.reg false [1, 16] [oQ 15 (.mov (.t 1)),
 oQ 16 (.bin .lss (.t 15) (kI 0))])
 (.cond (.t 16)
 (.seq
 (.reg false [4] [oQ 4 (.mov (.k (.d (.int .i64 (-1)))))])
 .ret)
 .skip))
 (.seq
 (.reg false [4] [oQ 17 (.mov (.t 1)),
 oQ 4 (.mov (.t 17))])
 .ret))))))
theorem c51 : (Go.Proofs.Tryz.f51).body.bind (comp prog.P (1, (Go.Proofs.Tryz.f51).ntmps) lv51) = some m51 := by kernel_rfl
theorem r51 : resOK prog.P (Go.Proofs.Tryz.f51).results.toList = true := by kernel_rfl
def lv52 : List (Nat × List Nat) := [(0, [1, 2]), (1, [1, 2, 3]), (2, [1, 2, 3]), (3, [1, 2, 3]), (4, [1, 2, 3]), (5, [1, 2, 3]), (6, [2, 3]), (7, [2])]
def m52 : MC :=
  (.seq
 (.reg false [1, 2] [oX 1 (.box (.t 0)),
 oX 2 (.alloc (.st (.cons (.int .i64 0) (.cons (.sl true 4 .nil) (.cons (.int .i64 0) (.cons (.int .i64 0) (.cons (.sl true 1 .nil) .nil)))))))])
 (.seq
 (.reg false [1, 2, 3] [oX 3 (.alloc (.st (.cons (.int .i64 0) (.cons (.sl true 4 .nil) (.cons (.int .i64 0) (.cons (.int .i64 0) (.cons (.sl true 1 .nil) .nil)))))))])
 (.seq
 (.reg false [1, 2, 3] [oQ 4 (.fa 0 0 (.t 1)),
 oQ 5 (.ld none (.t 4)),
 oQ 6 (.fa 0 0 (.t 3)),
 oN (.st 1 (.t 6) (.t 5))])
 (.seq
 (.reg false [1, 2, 3] [oQ 7 (.fa 1 1 (.t 1)),
 oQ 8 (.ld none (.t 7)),
 oX 9 (.call 125 [(.t 8)]),
 oQ 10 (.fa 1 1 (.t 3)),
 oN (.st 1 (.t 10) (.t 9))])
 (.seq
 (.reg false [1, 2, 3] [oQ 11 (.fa 2 2 (.t 1)),
 oQ 12 (.ld none (.t 11)),
 oQ 13 (.fa 2 2 (.t 3)),
 oN (.st 1 (.t 13) (.t 12))])
 (.seq
 (.reg false [1, 2, 3] [oQ 14 (.fa 3 3 (.t 1)),
 oQ 15 (.ld none (.t 14)),
 oQ 16 (.fa 3 3 (.t 3)),
 oN (.st 1 (.t 16) (.t 15))])
 (.seq
 (.reg false [2, 3] [oQ 17 (.fa 4 4 (.t 1)),
 oQ 18 (.ld none (.t 17)),
 oX 19 (.call 126 [(.t 18)]),
 oQ 20 (.fa 4 4 (.t 3)),
 oN (.st 1 (.t 20) (.t 19))])
 (.seq
 (.reg false [2] [oQ 21 (.ldv 5 (.t 3)),
 oN (.st 5 (.t 2) (.t 21))])
 .ret))))))))
theorem c52 : (Go.Proofs.Tryz.f52).body.bind (comp prog.P (1, (Go.Proofs.Tryz.f52).ntmps) lv52) = some m52 := by kernel_rfl
theorem r52 : resOK prog.P (Go.Proofs.Tryz.f52).results.toList = true := by kernel_rfl
def lv53 : List (Nat × List Nat) := [(0, [1, 2]), (1, [1, 2, 3]), (2, [1, 2, 3]), (3, [1, 2, 3]), (4, [1, 2, 3]), (5, [2, 3]), (6, [2])]
def m53 : MC :=
  (.seq
 (.reg false [1, 2] [oX 1 (.box (.t 0)),
 oX 2 (.alloc (.st (.cons (.int .i64 0) (.cons (.int .i64 0) (.cons (.int .i64 0) (.cons (.int .i64 0) .nil))))))])
 (.seq
 (.reg false [1, 2, 3] [oX 3 (.alloc (.st (.cons (.int .i64 0) (.cons (.int .i64 0) (.cons (.int .i64 0) (.cons (.int .i64 0) .nil))))))])
 (.seq
 (.reg false [1, 2, 3] [oQ 4 (.fa 0 0 (.t 1)),
 oQ 5 (.ld none (.t 4)),
 oQ 6 (.fa 0 0 (.t 3)),
 oN (.st 1 (.t 6) (.t 5))])
 (.seq
 (.reg false [1, 2, 3] [oQ 7 (.fa 1 1 (.t 1)),
 oQ 8 (.ld none (.t 7)),
 oQ 9 (.fa 1 1 (.t 3)),
 oN (.st 1 (.t 9) (.t 8))])
 (.seq
 (.reg false [1, 2, 3] [oQ 10 (.fa 2 2 (.t 1)),
 oQ 11 (.ld none (.t 10)),
 oQ 12 (.fa 2 2 (.t 3)),
 oN (.st 1 (.t 12) (.t 11))])
 (.seq
 (.reg false [2, 3] [oQ 13 (.fa 3 3 (.t 1)),
 oQ 14 (.ld none (.t 13)),
 oQ 15 (.fa 3 3 (.t 3)),
 oN (.st 1 (.t 15) (.t 14))])
 (.seq
 (.reg false [2] [oQ 16 (.ld (some 4) (.t 3)),
 oN (.st 4 (.t 2) (.t 16))])
 .ret)))))))
theorem c53 : (Go.Proofs.Tryz.f53).body.bind (comp prog.P (1, (Go.Proofs.Tryz.f53).ntmps) lv53) = some m53 := by kernel_rfl
theorem r53 : resOK prog.P (Go.Proofs.Tryz.f53).results.toList = true := by kernel_rfl
def lv54 : List (Nat × List Nat) := [(0, [2, 3]), (1, [2, 3, 9]), (2, [4]), (3, [2, 3, 15]), (4, [4]), (5, [2, 3, 20]), (6, [4]), (7, [2, 3, 25]), (8, [4]), (9, [31]), (10, [4]), (11, [4])]
def m54 : MC :=
  (.seq
 (.reg false [2, 3] [oX 2 (.box (.t 0)),
 oX 3 (.box (.t 1)),
 oQ 4 (.mov (kB false))])
 (.seq
 (.seq
 (.reg false [2, 3, 9] [oQ 5 (.fa 0 0 (.t 2)),
 oQ 6 (.ld none (.t 5)),
 oQ 7 (.fa 0 0 (.t 3)),
 oQ 8 (.ld none (.t 7)),
 oQ 9 (.bin .neq (.t 6) (.t 8))])
 (.cond (.t 9)
 (.seq
 (.reg false [4] [oQ 4 (.mov (kB false))])
 .ret)
 .skip))
 (.seq
 (.seq
 (.reg false [2, 3, 15] [oQ 10 (.fa 1 1 (.t 2)),
 oQ 11 (.ld none (.t 10)),
 oQ 12 (.fa 1 1 (.t 3)),
 oQ 13 (.ld none (.t 12)),
 oX 14 (.call 127 [(.t 11), (.t 13)]),
 oQ 15 (.un .not (.t 14))])
 (.cond (.t 15)
 (.seq
 (.reg false [4] [oQ 4 (.mov (kB false))])
 .ret)
 .skip))
 (.seq
 (.seq
 (.reg false [2, 3, 20] [oQ 16 (.fa 2 2 (.t 2)),
 oQ 17 (.ld none (.t 16)),
 oQ 18 (.fa 2 2 (.t 3)),
 oQ 19 (.ld none (.t 18)),
 oQ 20 (.bin .neq (.t 17) (.t 19))])
 (.cond (.t 20)
 (.seq
 (.reg false [4] [oQ 4 (.mov (kB false))])
 .ret)
 .skip))
 (.seq
 (.seq
 (.reg false [2, 3, 25] [oQ 21 (.fa 3 3 (.t 2)),
 oQ 22 (.ld none (.t 21)),
 oQ 23 (.fa 3 3 (.t 3)),
 oQ 24 (.ld none (.t 23)),
 oQ 25 (.bin .neq (.t 22) (.t 24))])
 (.cond (.t 25)
 (.seq
 (.reg false [4] [oQ 4 (.mov (kB false))])
 .ret)
 .skip))
 (.seq
 (.seq
 (.reg false [31] [oQ 26 (.fa 4 4 (.t 2)),
 oQ 27 (.ld none (.t 26)),
 oQ 28 (.fa 4 4 (.t 3)),
 oQ 29 (.ld none (.t 28)),
 oX 30 (.call 17 [(.t 27), (.t 29)]),
 oQ 31 (.un .not (.t 30))])
 (.cond (.t 31)
 (.seq
 (.reg false [4] [oQ 4 (.mov (kB false))])
 .ret)
 .skip))
 (.seq
 (.reg false [4] [oQ 4 (.mov (kB true))])
 .ret)))))))
theorem c54 : (Go.Proofs.Tryz.f54).body.bind (comp prog.P (2, (Go.Proofs.Tryz.f54).ntmps) lv54) = some m54 := by kernel_rfl
theorem r54 : resOK prog.P (Go.Proofs.Tryz.f54).results.toList = true := by kernel_rfl
def lv55 : List (Nat × List Nat) := [(0, [0, 1, 2]), (1, [0, 1, 2]), (2, [0, 1]), (3, [0, 4])]
def m55 : MC :=
  (.seq
 (.reg false [0, 1, 2] [oX 2 (.box (.t 0)),
 oQ 4 (.mov (kI 0))])
 (.seq
 (.reg false [0, 1, 2] [oQ 5 (.fa 1 1 (.t 2)),
 oQ 6 (.ld none (.t 5)),
 oQ 7 (.mov (.t 1)),
 oX 8 (.call 128 [(.t 6), (.t 7)]),
 oQ 1 (.mov (.t 8))])
 (.seq
 (.reg false [0, 1] [oQ 9 (.fa 4 4 (.t 2)),
 oQ 10 (.ld none (.t 9)),
 oQ 11 (.mov (.t 1)),
 oX 12 (.call 20 [(.t 10), (.t 11)]),
 oQ 1 (.mov (.t 12))])
 (.seq
 (.reg false [0, 4] [oQ 13 (.mov (.t 1)),
 oQ 4 (.mov (.t 13))])
 .ret))))
theorem c55 : (Go.Proofs.Tryz.f55).body.bind (comp prog.P (1, (Go.Proofs.Tryz.f55).ntmps) lv55) = some m55 := by kernel_rfl
theorem r55 : resOK prog.P (Go.Proofs.Tryz.f55).results.toList = true := by kernel_rfl
def lv56 : List (Nat × List Nat) := [(0, [1, 2]), (1, [1, 2]), (2, [1, 2, 10]), (3, [4]), (4, [1]), (5, [1, 16]), (6, [4]), (7, [4])]
def m56 : MC :=
  (.seq
 (.reg false [1, 2] [oX 2 (.box (.t 0)),
 oQ 4 (.mov (kI 0))])
 (.seq
 (.reg false [1, 2] [oQ 5 (.fa 1 1 (.t 2)),
 oQ 6 (.ld none (.t 5)),
 oQ 7 (.mov (.t 1)),
 oX 8 (.call 129 [(.t 6), (.t 7)]),
 oQ 1 (.mov (.t 8))])
 (.seq
 (.seq
 (.reg false [1, 2, 10] [oQ 9 (.mov (.t 1)),
 oQ 10 (.bin .lss (.t 9) (kI 0))])
 (.cond (.t 10)
 (.seq
 (.reg false [4] [oQ 4 (.mov (.k (.d (.int .i64 (-1)))))])
 .ret)
 .skip))
 (.seq
 (.reg false [1] [oQ 11 (.fa 4 4 (.t 2)),
 oQ 12 (.ld none (.t 11)),
 oQ 13 (.mov (.t 1)),
 oX 14 (.call 21 [(.t 12), (.t 13)]),
 oQ 1 (.mov (.t 14))])
 (.seq
 (.seq
 (.reg false [1, 16] [oQ 15 (.mov (.t 1)),
 oQ 16 (.bin .lss (.t 15) (kI 0))])
 (.cond (.t 16)
 (.seq
 (.reg false [4] [oQ 4 (.mov (.k (.d (.int .i64 (-1)))))])
 .ret)
 .skip))
 (.seq
 (.reg false [4] [oQ 17 (.mov (.t 1)),
 oQ 4 (.mov (.t 17))])
 .ret))))))
theorem c56 : (Go.Proofs.Tryz.f56).body.bind (comp prog.P (1, (Go.Proofs.Tryz.f56).ntmps) lv56) = some m56 := by kernel_rfl
theorem r56 : resOK prog.P (Go.Proofs.Tryz.f56).results.toList = true := by kernel_rfl
def lv87 : List (Nat × List Nat) := [(0, [0]), (1, [0, 5]), (2, [2]), (3, [0, 3]), (4, [0, 3, 7]), (5, [0, 3]), (6, [0, 3]), (7, [2])]
def m87 : MC :=
  (.seq
 (.reg false [0] [oQ 2 (.mov (.k (.d (.str []))))])
 (.seq
 (.seq
 (.reg false [0, 5] [oQ 4 (.mov (.t 0)),
 oQ 5 (.bin .leq (.t 4) (kI 0))])
 (.cond (.t 5)
 (.seq
 (.reg false [2] [oQ 2 (.mov (.k (.d (.str [109, 48]))))])
 .ret)
 .skip))
 (.seq
 (.reg false [0, 3] [oQ 3 (.mov (.k (.d (.str []))))])
 (.seq
 (.block 0
 (.loop
 (.seq
 (.seq
 (.reg false [0, 3, 7] [oQ 6 (.mov (.t 0)),
 oQ 7 (.bin .gtr (.t 6) (kI 0))])
 (.cond (.t 7)
 .skip
 (.exit 0)))
 (.block 1
 (.seq
 (.reg false [0, 3] [oQ 8 (.mov (.t 0)),
 oQ 9 (.bin .rem (.t 8) (kI 10)),
 oQ 10 (.bin .add (kI 48) (.t 9)),
 oQ 11 (.conv .u8 (.t 10)),
 oX 12 (.bs 1 1 (.int .u8 0) [(0, (.t 11))]),
 oQ 13 (.b2s (.t 12)),
 oQ 14 (.mov (.t 3)),
 oQ 15 (.bin .add (.t 13) (.t 14)),
 oQ 3 (.mov (.t 15))])
 (.reg false [0, 3] [oQ 16 (.mov (.t 0)),
 oQ 17 (.bin .quo (.t 16) (kI 10)),
 oQ 0 (.mov (.t 17))]))))))
 (.seq
 (.reg false [2] [oQ 18 (.mov (.t 3)),
 oQ 19 (.bin .add (.k (.d (.str [109]))) (.t 18)),
 oQ 2 (.mov (.t 19))])
 .ret)))))
theorem c87 : (Go.Proofs.Tryz.f87).body.bind (comp prog.P (0, (Go.Proofs.Tryz.f87).ntmps) lv87) = some m87 := by kernel_rfl
theorem r87 : resOK prog.P (Go.Proofs.Tryz.f87).results.toList = true := by kernel_rfl
def lv105 : List (Nat × List Nat) := [(0, [0, 1, 2]), (1, [6])]
def m105 : MC :=
  (.seq
 (.reg false [0, 1, 2] [oQ 6 (.mov (kB false))])
 (.seq
 (.reg false [6] [oQ 7 (.mov (.t 1)),
 oQ 8 (.mov (.t 0)),
 oQ 9 (.bin .leq (.t 7) (.t 8)),
 oQ 10 (.mov (.t 9)),
 oG 11 10 true (.mov (.t 0)),
 oG 12 10 true (.mov (.t 2)),
 oG 13 10 true (.bin .leq (.t 11) (.t 12)),
 oQ 14 (.pick (.t 10) (.t 13) (kB false)),
 oQ 6 (.mov (.t 14))])
 .ret))
theorem c105 : (Go.Proofs.Tryz.f105).body.bind (comp prog.P (3, (Go.Proofs.Tryz.f105).ntmps) lv105) = some m105 := by kernel_rfl
theorem r105 : resOK prog.P (Go.Proofs.Tryz.f105).results.toList = true := by kernel_rfl
def lv109 : List (Nat × List Nat) := [(0, [1, 2]), (1, [1, 2]), (2, [1, 2, 10, 11]), (3, [1, 2, 10, 11, 12]), (4, [1, 2, 3, 10, 11]), (5, [1, 2, 10, 11]), (6, [1, 2, 10, 11]), (7, [1, 2]), (8, [2]), (1000005, [1, 12, 1, 0, 1, 1, 1, 2, 1, 3, 1, 4, 1, 5, 1, 6, 1, 7, 1, 8, 2, 9, 1, 10, 1, 11, 2, 12, 0])]
def m109 : MC :=
  (.seq
 (.reg false [1, 2] [oX 1 (.box (.t 0)),
 oX 2 (.alloc (.st (.cons (.int .i64 0) (.cons (.sl true 4 .nil) (.cons (.int .i64 0) (.cons (.int .i64 0) (.cons (.sl true 1 .nil) .nil)))))))])
 (.seq
 (.reg false [1, 2] [oQ 4 (.fa 1 1 (.t 1)),
 oQ 5 (.ld none (.t 4)),
 oX 6 (.call 170 [(.t 5)]),
 oQ 7 (.fa 1 1 (.t 1)),
 oN (.st 1 (.t 7) (.t 6))])
 (.seq
 (.seq
 (.reg false [1, 2, 10, 11] [oQ 8 (.fa 1 1 (.t 1)),
 oQ 9 (.ld none (.t 8)),
 oQ 10 (.len false (.t 9)),
 oQ 11 (.mov (kI 0))])
 (.block 0
 (.loop
 (.seq
 (.reg false [1, 2, 10, 11, 12] [oQ 12 (.bin .lss (.t 11) (.t 10))])
 (.seq
 (.cond (.t 12)
 .skip
 (.exit 0))
 (.seq
 (.block 1
 (.seq
 (.reg false [1, 2, 3, 10, 11] [oQ 13 (.mov (.t 11)),
 oQ 3 (.mov (.t 13))])
 (.any [12] [1, 2, 10, 11] (.q 0 (oQ 14 (.fa 1 1 (.t 1))) (.q 1 (oQ 15 (.ld none (.t 14))) (.q 2 (oQ 16 (.mov (.t 3))) (.q 3 (oQ 17 (.fa 1 1 (.t 1))) (.q 4 (oQ 18 (.ld none (.t 17))) (.q 5 (oQ 19 (.mov (.t 3))) (.q 6 (oQ 20 (.ia 4 (.t 18) (.t 19))) (.q 7 (oQ 21 (.fa 3 3 (.t 20))) (.q 8 (oQ 22 (.ld none (.t 21))) (.e 9 (oX 23 (.call 171 [(.t 22)])) (.q 10 (oQ 24 (.ia 4 (.t 15) (.t 16))) (.q 11 (oQ 25 (.fa 3 3 (.t 24))) (.e 12 (oN (.st 1 (.t 25) (.t 23))) .done))))))))))))))))
 (.reg false [1, 2, 10, 11] [oQ 26 (.bin .add (.t 11) (kI 1)),
 oQ 11 (.mov (.t 26))])))))))
 (.seq
 (.reg false [1, 2] [oQ 27 (.fa 4 4 (.t 1)),
 oQ 28 (.ld none (.t 27)),
 oX 29 (.call 172 [(.t 28)]),
 oQ 30 (.fa 4 4 (.t 1)),
 oN (.st 1 (.t 30) (.t 29))])
 (.seq
 (.reg false [2] [oQ 31 (.ldv 5 (.t 1)),
 oN (.st 5 (.t 2) (.t 31))])
 .ret)))))
theorem c109 : (Go.Proofs.Tryz.f109).body.bind (comp prog.P (1, (Go.Proofs.Tryz.f109).ntmps) lv109) = some m109 := by kernel_rfl
theorem r109 : resOK prog.P (Go.Proofs.Tryz.f109).results.toList = true := by kernel_rfl
def lv110 : List (Nat × List Nat) := [(0, [0, 3]), (1, [0, 3, 5]), (2, [0, 3, 5, 13]), (3, [0, 3, 18]), (4, [0, 4]), (5, [0, 3, 6]), (6, [0, 3, 6, 38]), (7, [0, 3, 6]), (8, [0]), (9, [0, 4]), (10, [0, 3, 5, 63]), (11, [0, 4]), (12, [0, 3, 5, 67]), (13, [0, 3]), (14, [0, 4]), (15, [0, 3, 5, 88]), (16, [0, 4]), (17, [0, 4]), (1000008, [1, 22, 1, 0, 1, 1, 1, 2, 1, 3, 1, 4, 1, 5, 1, 6, 1, 7, 1, 8, 1, 9, 1, 10, 1, 11, 1, 12, 1, 13, 1, 14, 1, 15, 1, 16, 2, 17, 2, 18, 2, 19, 1, 20, 1, 21, 2, 22, 0]), (1000013, [1, 9, 1, 0, 1, 1, 1, 2, 1, 3, 1, 4, 1, 5, 1, 6, 1, 7, 1, 8, 2, 9, 0])]
def m110 : MC :=
  (.seq
 (.reg false [0, 3] [oX 3 (.box (.t 1)),
 oQ 4 (.mov (kB false))])
 (.seq
 (.reg true [0, 3, 5] [oQ 7 (.mov (.t 0)),
 oQ 8 (.nck (.t 7)),
 oQ 9 (.ldv 5 (.t 8)),
 oQ 10 (.fa 1 1 (.t 3)),
 oQ 11 (.ld none (.t 10)),
 oQ 12 (.callP 140 [(.t 9), (.t 11)]),
 oQ 5 (.mov (.t 12))])
 (.seq
 (.block 0
 (.seq
 (.reg false [0, 3, 5, 13] [oQ 14 (.fa 0 0 (.t 3)),
 oQ 15 (.ld none (.t 14)),
 oQ 16 (.bin .eql (.t 15) (kI 2)),
 oQ 13 (.mov (.t 16))])
 (.cond (.t 13)
 (.seq
 (.seq
 (.reg false [0, 3, 18] [oQ 17 (.mov (.t 5)),
 oQ 18 (.bin .geq (.t 17) (kI 0))])
 (.cond (.t 18)
 (.seq
 (.reg false [0, 4] [oQ 4 (.mov (kB false))])
 .ret)
 .skip))
 (.seq
 (.reg false [0, 3, 6] [oQ 6 (.mov (kI 0))])
 (.seq
 (.block 1
 (.loop
 (.seq
 (.seq
 (.reg true [0, 3, 6, 38] [oQ 19 (.mov (.t 6)),
 oQ 20 (.mov (.t 0)),
 oQ 21 (.nck (.t 20)),
 oQ 22 (.fa 1 1 (.t 21)),
 oQ 23 (.ld none (.t 22)),
 oQ 24 (.len false (.t 23)),
 oQ 25 (.bin .lss (.t 19) (.t 24)),
 oQ 26 (.mov (.t 25)),
 oG 27 26 true (.mov (.t 0)),
 oG 28 26 true (.nck (.t 27)),
 oG 29 26 true (.fa 1 1 (.t 28)),
 oG 30 26 true (.ld none (.t 29)),
 oG 31 26 true (.mov (.t 6)),
 oG 32 26 true (.ia 4 (.t 30) (.t 31)),
 oG 33 26 true (.fa 0 0 (.t 32)),
 oG 34 26 true (.ld none (.t 33)),
 oG 35 26 true (.fa 1 1 (.t 3)),
 oG 36 26 true (.ld none (.t 35)),
 oG 37 26 true (.bin .lss (.t 34) (.t 36)),
 oQ 38 (.pick (.t 26) (.t 37) (kB false))])
 (.cond (.t 38)
 .skip
 (.exit 1)))
 (.block 2
 (.reg false [0, 3, 6] [oQ 39 (.mov (.t 6)),
 oQ 40 (.bin .add (.t 39) (kI 1)),
 oQ 6 (.mov (.t 40))])))))
 (.seq
 (.any [22] [0] (.q 0 (oQ 41 (.mov (.t 0))) (.q 1 (oQ 42 (.mov (.t 0))) (.q 2 (oQ 43 (.nck (.t 42))) (.q 3 (oQ 44 (.fa 1 1 (.t 43))) (.q 4 (oQ 45 (.ld none (.t 44))) (.q 5 (oQ 46 (.mov (.t 6))) (.q 6 (oQ 47 (.fa 1 1 (.t 3))) (.q 7 (oQ 48 (.ld none (.t 47))) (.q 8 (oQ 49 (.fa 2 2 (.t 3))) (.q 9 (oQ 50 (.ld none (.t 49))) (.q 10 (oQ 51 (.mov (.t 0))) (.q 11 (oQ 52 (.nck (.t 51))) (.q 12 (oQ 53 (.fa 0 0 (.t 52))) (.q 13 (oQ 54 (.ld none (.t 53))) (.q 14 (oQ 55 (.fa 3 3 (.t 3))) (.q 15 (oQ 56 (.ld none (.t 55))) (.q 16 (oQ 57 (.bin .add (.t 54) (.t 56))) (.e 17 (oX 58 (.bld (.cons (.int .i64 0) (.cons (.int .i64 0) (.cons (.int .i64 0) (.cons (.sl true 1 .nil) .nil)))) [(0, (.t 48)), (1, (.t 50)), (2, (.t 57))])) (.e 18 (oX 59 (.bs 4 1 (.st (.cons (.int .i64 0) (.cons (.int .i64 0) (.cons (.int .i64 0) (.cons (.sl true 1 .nil) .nil))))) [(0, (.t 58))])) (.e 19 (oX 60 (.call 173 [(.t 45), (.t 46), (.t 59)])) (.q 20 (oQ 61 (.nck (.t 41))) (.q 21 (oQ 62 (.fa 1 1 (.t 61))) (.e 22 (oN (.st 1 (.t 62) (.t 60))) .done))))))))))))))))))))))))
 (.seq
 (.reg false [0, 4] [oQ 4 (.mov (kB true))])
 .ret)))))
 (.seq
 (.reg false [0, 3, 5, 63] [oQ 64 (.fa 2 2 (.t 3)),
 oQ 65 (.ld none (.t 64)),
 oQ 66 (.bin .neq (.t 65) (kI 0)),
 oQ 63 (.mov (.t 66))])
 (.cond (.t 63)
 (.seq
 (.reg false [0, 4] [oQ 4 (.mov (kB false))])
 .ret)
 (.seq
 (.reg false [0, 3, 5, 67] [oQ 68 (.fa 0 0 (.t 3)),
 oQ 69 (.ld none (.t 68)),
 oQ 70 (.bin .eql (.t 69) (kI 1)),
 oQ 67 (.mov (.t 70))])
 (.cond (.t 67)
 (.seq
 (.any [9] [0, 3] (.q 0 (oQ 71 (.mov (.t 0))) (.q 1 (oQ 72 (.nck (.t 71))) (.q 2 (oQ 73 (.fa 0 0 (.t 72))) (.q 3 (oQ 74 (.ld none (.t 73))) (.q 4 (oQ 75 (.fa 3 3 (.t 3))) (.q 5 (oQ 76 (.ld none (.t 75))) (.q 6 (oQ 77 (.bin .add (.t 74) (.t 76))) (.q 7 (oQ 78 (.nck (.t 71))) (.q 8 (oQ 79 (.fa 0 0 (.t 78))) (.e 9 (oN (.st 1 (.t 79) (.t 77))) .done)))))))))))
 (.seq
 (.reg false [0, 4] [oQ 80 (.fa 1 1 (.t 3)),
 oQ 81 (.ld none (.t 80)),
 oQ 82 (.bin .eql (.t 81) (kI 0)),
 oQ 83 (.mov (.t 82)),
 oG 84 83 true (.fa 3 3 (.t 3)),
 oG 85 83 true (.ld none (.t 84)),
 oG 86 83 true (.bin .geq (.t 85) (kI 1)),
 oQ 87 (.pick (.t 83) (.t 86) (kB false)),
 oQ 4 (.mov (.t 87))])
 .ret))
 (.seq
 (.reg false [0, 3, 5, 88] [oQ 89 (.fa 0 0 (.t 3)),
 oQ 90 (.ld none (.t 89)),
 oQ 91 (.bin .eql (.t 90) (kI 4)),
 oQ 88 (.mov (.t 91))])
 (.cond (.t 88)
 (.seq
 (.reg false [0, 4] [oQ 92 (.fa 1 1 (.t 3)),
 oQ 93 (.ld none (.t 92)),
 oQ 94 (.bin .eql (.t 93) (kI 0)),
 oQ 95 (.mov (.t 94)),
 oG 96 95 true (.mov (.t 0)),
 oG 97 95 true (.fa 3 3 (.t 3)),
 oG 98 95 true (.ld none (.t 97)),
 oH 99 95 true (.call 174 [(.t 96), (.t 98)]),
 oQ 100 (.pick (.t 95) (.t 99) (kB false)),
 oQ 4 (.mov (.t 100))])
 .ret)
 .skip)))))))))
 (.seq
 (.reg false [0, 4] [oQ 101 (.mov (.t 5)),
 oQ 102 (.bin .geq (.t 101) (kI 0)),
 oQ 103 (.mov (.t 102)),
 oG 104 103 true (.mov (.t 0)),
 oG 105 103 true (.mov (.t 5)),
 oG 106 103 true (.ld (some 4) (.t 3)),
 oH 107 103 true (.call 175 [(.t 104), (.t 105), (.t 106)]),
 oQ 108 (.pick (.t 103) (.t 107) (kB false)),
 oQ 4 (.mov (.t 108))])
 .ret))))
theorem c110 : (Go.Proofs.Tryz.f110).body.bind (comp prog.P (2, (Go.Proofs.Tryz.f110).ntmps) lv110) = some m110 := by kernel_rfl
theorem r110 : resOK prog.P (Go.Proofs.Tryz.f110).results.toList = true := by kernel_rfl
def lv111 : List (Nat × List Nat) := [(0, [1]), (1, [1, 37]), (2, [2]), (3, [1, 3]), (4, [1, 3, 42]), (5, [1, 3]), (6, [1, 3, 71]), (7, [2]), (8, [2])]
def m111 : MC :=
  (.seq
 (.reg false [1] [oX 1 (.box (.t 0)),
 oQ 2 (.mov (kB false))])
 (.seq
 (.seq
 (.reg false [1, 37] [oQ 4 (.fa 0 0 (.t 1)),
 oQ 5 (.ld none (.t 4)),
 oX 6 (.call 122 [(.t 5)]),
 oQ 7 (.un .not (.t 6)),
 oQ 8 (.mov (.t 7)),
 oG 9 8 false (.fa 1 1 (.t 1)),
 oG 10 8 false (.ld none (.t 9)),
 oG 11 8 false (.len false (.t 10)),
 oG 12 8 false (.bin .gtr (.t 11) (kI 6)),
 oQ 13 (.pick (.t 8) (kB true) (.t 12)),
 oQ 14 (.mov (.t 13)),
 oG 15 14 false (.fa 2 2 (.t 1)),
 oG 16 14 false (.ld none (.t 15)),
 oH 17 14 false (.call 136 [(.t 16), (kI 0), (kI 999)]),
 oG 18 14 false (.un .not (.t 17)),
 oQ 19 (.pick (.t 14) (kB true) (.t 18)),
 oQ 20 (.mov (.t 19)),
 oG 21 20 false (.fa 3 3 (.t 1)),
 oG 22 20 false (.ld none (.t 21)),
 oH 23 20 false (.call 136 [(.t 22), (kI 0), (kI 999)]),
 oG 24 20 false (.un .not (.t 23)),
 oQ 25 (.pick (.t 20) (kB true) (.t 24)),
 oQ 26 (.mov (.t 25)),
 oG 27 26 false (.fa 4 4 (.t 1)),
 oG 28 26 false (.ld none (.t 27)),
 oG 29 26 false (.len false (.t 28)),
 oG 30 26 false (.bin .gtr (.t 29) (kI 0)),
 oG 31 26 false (.mov (.t 30)),
 oG 32 31 true (.fa 4 4 (.t 1)),
 oG 33 31 true (.ld none (.t 32)),
 oH 34 31 true (.call 176 [(.t 33)]),
 oG 35 31 true (.un .not (.t 34)),
 oG 36 26 false (.pick (.t 31) (.t 35) (kB false)),
 oQ 37 (.pick (.t 26) (kB true) (.t 36))])
 (.cond (.t 37)
 (.seq
 (.reg false [2] [oQ 2 (.mov (kB false))])
 .ret)
 .skip))
 (.seq
 (.seq
 (.reg false [1, 3] [oQ 3 (.mov (kI 0))])
 (.block 0
 (.loop
 (.seq
 (.seq
 (.reg false [1, 3, 42] [oQ 38 (.mov (.t 3)),
 oQ 39 (.fa 1 1 (.t 1)),
 oQ 40 (.ld none (.t 39)),
 oQ 41 (.len false (.t 40)),
 oQ 42 (.bin .lss (.t 38) (.t 41))])
 (.cond (.t 42)
 .skip
 (.exit 0)))
 (.seq
 (.block 1
 (.seq
 (.reg true [1, 3, 71] [oQ 45 (.fa 1 1 (.t 1)),
 oQ 46 (.ld none (.t 45)),
 oQ 47 (.mov (.t 3)),
 oQ 48 (.ia 4 (.t 46) (.t 47)),
 oQ 49 (.ld (some 4) (.t 48)),
 oQ 50 (.callP 177 [(.t 49)]),
 oQ 51 (.un .not (.t 50)),
 oQ 52 (.mov (.t 51)),
 oG 53 52 false (.mov (.t 3)),
 oG 54 52 false (.bin .gtr (.t 53) (kI 0)),
 oG 55 52 false (.mov (.t 54)),
 oG 56 55 true (.fa 1 1 (.t 1)),
 oG 57 55 true (.ld none (.t 56)),
 oG 58 55 true (.mov (.t 3)),
 oG 59 55 true (.bin .sub (.t 58) (kI 1)),
 oG 60 55 true (.ia 4 (.t 57) (.t 59)),
 oG 61 55 true (.fa 0 0 (.t 60)),
 oG 62 55 true (.ld none (.t 61)),
 oG 63 55 true (.fa 1 1 (.t 1)),
 oG 64 55 true (.ld none (.t 63)),
 oG 65 55 true (.mov (.t 3)),
 oG 66 55 true (.ia 4 (.t 64) (.t 65)),
 oG 67 55 true (.fa 0 0 (.t 66)),
 oG 68 55 true (.ld none (.t 67)),
 oG 69 55 true (.bin .geq (.t 62) (.t 68)),
 oG 70 52 false (.pick (.t 55) (.t 69) (kB false)),
 oQ 71 (.pick (.t 52) (kB true) (.t 70))])
 (.cond (.t 71)
 (.seq
 (.reg false [2] [oQ 2 (.mov (kB false))])
 .ret)
 .skip)))
 (.reg false [1, 3] [oQ 43 (.mov (.t 3)),
 oQ 44 (.bin .add (.t 43) (kI 1)),
 oQ 3 (.mov (.t 44))]))))))
 (.seq
 (.reg false [2] [oQ 2 (.mov (kB true))])
 .ret))))
theorem c111 : (Go.Proofs.Tryz.f111).body.bind (comp prog.P (1, (Go.Proofs.Tryz.f111).ntmps) lv111) = some m111 := by kernel_rfl
theorem r111 : resOK prog.P (Go.Proofs.Tryz.f111).results.toList = true := by kernel_rfl
def lv112 : List (Nat × List Nat) := [(0, [2, 3]), (1, [3, 5]), (2, [3, 5, 11]), (3, [3, 5, 11, 12]), (4, [4]), (5, [3, 5, 11, 27]), (6, [4]), (7, [3, 5, 11, 46]), (8, [4]), (9, [3, 5, 11, 60]), (10, [4]), (11, [3, 5, 75]), (12, [4]), (13, [4])]
def m112 : MC :=
  (.seq
 (.reg false [2, 3] [oX 2 (.box (.t 0)),
 oX 3 (.box (.t 1)),
 oQ 4 (.mov (kB false))])
 (.seq
 (.reg false [3, 5] [oQ 6 (.ldv 5 (.t 2)),
 oQ 7 (.fa 1 1 (.t 3)),
 oQ 8 (.ld none (.t 7)),
 oX 9 (.call 142 [(.t 6), (.t 8)]),
 oQ 5 (.mov (.t 9))])
 (.seq
 (.seq
 (.reg false [3, 5, 11] [oQ 10 (.fa 0 0 (.t 3)),
 oQ 11 (.ld none (.t 10))])
 (.block 0
 (.seq
 (.reg false [3, 5, 11, 12] [oQ 13 (.bin .eql (.t 11) (kI 1)),
 oQ 12 (.mov (.t 13))])
 (.cond (.t 12)
 (.seq
 (.reg false [4] [oQ 14 (.fa 1 1 (.t 3)),
 oQ 15 (.ld none (.t 14)),
 oQ 16 (.bin .eql (.t 15) (kI 0)),
 oQ 17 (.mov (.t 16)),
 oG 18 17 true (.fa 2 2 (.t 3)),
 oG 19 17 true (.ld none (.t 18)),
 oG 20 17 true (.bin .eql (.t 19) (kI 0)),
 oQ 21 (.pick (.t 17) (.t 20) (kB false)),
 oQ 22 (.mov (.t 21)),
 oG 23 22 true (.fa 3 3 (.t 3)),
 oG 24 22 true (.ld none (.t 23)),
 oG 25 22 true (.bin .geq (.t 24) (kI 1)),
 oQ 26 (.pick (.t 22) (.t 25) (kB false)),
 oQ 4 (.mov (.t 26))])
 .ret)
 (.seq
 (.reg false [3, 5, 11, 27] [oQ 28 (.bin .eql (.t 11) (kI 2)),
 oQ 27 (.mov (.t 28))])
 (.cond (.t 27)
 (.seq
 (.reg false [4] [oQ 29 (.fa 1 1 (.t 3)),
 oQ 30 (.ld none (.t 29)),
 oX 31 (.call 136 [(.t 30), (kI 1), (kI 999)]),
 oQ 32 (.mov (.t 31)),
 oG 33 32 true (.mov (.t 5)),
 oG 34 32 true (.bin .lss (.t 33) (kI 0)),
 oQ 35 (.pick (.t 32) (.t 34) (kB false)),
 oQ 36 (.mov (.t 35)),
 oG 37 36 true (.fa 2 2 (.t 3)),
 oG 38 36 true (.ld none (.t 37)),
 oH 39 36 true (.call 136 [(.t 38), (kI 1), (kI 3)]),
 oQ 40 (.pick (.t 36) (.t 39) (kB false)),
 oQ 41 (.mov (.t 40)),
 oG 42 41 true (.fa 3 3 (.t 3)),
 oG 43 41 true (.ld none (.t 42)),
 oG 44 41 true (.bin .geq (.t 43) (kI 0)),
 oQ 45 (.pick (.t 41) (.t 44) (kB false)),
 oQ 4 (.mov (.t 45))])
 .ret)
 (.seq
 (.reg false [3, 5, 11, 46] [oQ 47 (.bin .eql (.t 11) (kI 3)),
 oQ 46 (.mov (.t 47))])
 (.cond (.t 46)
 (.seq
 (.reg false [4] [oQ 48 (.mov (.t 5)),
 oQ 49 (.bin .geq (.t 48) (kI 0)),
 oQ 50 (.mov (.t 49)),
 oG 51 50 true (.fa 2 2 (.t 3)),
 oG 52 50 true (.ld none (.t 51)),
 oG 53 50 true (.bin .eql (.t 52) (kI 0)),
 oQ 54 (.pick (.t 50) (.t 53) (kB false)),
 oQ 55 (.mov (.t 54)),
 oG 56 55 true (.fa 3 3 (.t 3)),
 oG 57 55 true (.ld none (.t 56)),
 oH 58 55 true (.call 136 [(.t 57), (kI 1), (kI 9)]),
 oQ 59 (.pick (.t 55) (.t 58) (kB false)),
 oQ 4 (.mov (.t 59))])
 .ret)
 (.seq
 (.reg false [3, 5, 11, 60] [oQ 61 (.bin .eql (.t 11) (kI 4)),
 oQ 60 (.mov (.t 61))])
 (.cond (.t 60)
 (.seq
 (.reg false [4] [oQ 62 (.fa 1 1 (.t 3)),
 oQ 63 (.ld none (.t 62)),
 oQ 64 (.bin .eql (.t 63) (kI 0)),
 oQ 65 (.mov (.t 64)),
 oG 66 65 true (.fa 2 2 (.t 3)),
 oG 67 65 true (.ld none (.t 66)),
 oG 68 65 true (.bin .eql (.t 67) (kI 0)),
 oQ 69 (.pick (.t 65) (.t 68) (kB false)),
 oQ 70 (.mov (.t 69)),
 oG 71 70 true (.fa 3 3 (.t 3)),
 oG 72 70 true (.ld none (.t 71)),
 oH 73 70 true (.call 136 [(.t 72), (kI 1), (kI 9)]),
 oQ 74 (.pick (.t 70) (.t 73) (kB false)),
 oQ 4 (.mov (.t 74))])
 .ret)
 (.seq
 (.reg false [3, 5, 75] [oQ 76 (.bin .eql (.t 11) (kI 5)),
 oQ 75 (.mov (.t 76))])
 (.cond (.t 75)
 (.seq
 (.reg false [4] [oQ 77 (.mov (.t 5)),
 oQ 78 (.bin .geq (.t 77) (kI 0)),
 oQ 79 (.mov (.t 78)),
 oG 80 79 true (.fa 2 2 (.t 3)),
 oG 81 79 true (.ld none (.t 80)),
 oG 82 79 true (.bin .eql (.t 81) (kI 0)),
 oQ 83 (.pick (.t 79) (.t 82) (kB false)),
 oQ 84 (.mov (.t 83)),
 oG 85 84 true (.fa 3 3 (.t 3)),
 oG 86 84 true (.ld none (.t 85)),
 oG 87 84 true (.bin .geq (.t 86) (kI 1)),
 oQ 88 (.pick (.t 84) (.t 87) (kB false)),
 oQ 4 (.mov (.t 88))])
 .ret)
 .skip))))))))))))
 (.seq
 (.reg false [4] [oQ 89 (.fa 0 0 (.t 3)),
 oQ 90 (.ld none (.t 89)),
 oQ 91 (.bin .eql (.t 90) (kI 6)),
 oQ 92 (.mov (.t 91)),
 oG 93 92 true (.mov (.t 5)),
 oG 94 92 true (.bin .geq (.t 93) (kI 0)),
 oQ 95 (.pick (.t 92) (.t 94) (kB false)),
 oQ 96 (.mov (.t 95)),
 oG 97 96 true (.fa 2 2 (.t 3)),
 oG 98 96 true (.ld none (.t 97)),
 oG 99 96 true (.bin .eql (.t 98) (kI 0)),
 oQ 100 (.pick (.t 96) (.t 99) (kB false)),
 oQ 101 (.mov (.t 100)),
 oG 102 101 true (.fa 3 3 (.t 3)),
 oG 103 101 true (.ld none (.t 102)),
 oG 104 101 true (.bin .eql (.t 103) (kI 0)),
 oQ 105 (.pick (.t 101) (.t 104) (kB false)),
 oQ 4 (.mov (.t 105))])
 .ret))))
theorem c112 : (Go.Proofs.Tryz.f112).body.bind (comp prog.P (2, (Go.Proofs.Tryz.f112).ntmps) lv112) = some m112 := by kernel_rfl
theorem r112 : resOK prog.P (Go.Proofs.Tryz.f112).results.toList = true := by kernel_rfl
def lv113 : List (Nat × List Nat) := [(0, [2, 3, 4]), (1, [2, 3, 4, 6, 7]), (2, [2, 3, 4, 6, 7, 8]), (3, [2, 3, 4, 6, 7, 8, 16]), (4, [4, 6, 7]), (5, [2, 3, 4, 6, 7, 8, 16, 23]), (6, [2, 3, 4, 6, 7, 30]), (7, [4, 5]), (8, [4, 6, 7]), (9, [2, 3, 4, 6, 7, 8, 16, 38]), (10, [2, 3, 4, 6, 7, 45]), (11, [4, 5]), (12, [4, 6, 7]), (13, [2, 3, 4, 6, 7, 8, 16, 50]), (14, [3, 4, 6, 7, 8, 60]), (15, [4, 5]), (16, [4, 6, 7]), (17, [2, 3, 4, 6, 7, 8, 16, 76]), (18, [4, 6, 7]), (19, [2, 3, 4, 6, 7, 8, 85]), (20, [2, 3, 4, 6, 7, 8, 96]), (21, [4, 5]), (22, [4, 6, 7]), (23, [4, 5]), (1000016, [1, 14, 1, 0, 1, 1, 1, 2, 1, 3, 1, 4, 1, 5, 1, 6, 1, 7, 1, 8, 1, 9, 1, 10, 2, 11, 1, 12, 1, 13, 2, 14, 0]), (1000022, [1, 14, 1, 0, 1, 1, 1, 2, 1, 3, 1, 4, 1, 5, 1, 6, 1, 7, 1, 8, 1, 9, 1, 10, 1, 11, 1, 12, 1, 13, 2, 14, 0]), (1000023, [2, 6, 7, 1, 1, 1, 2, 3, 2, 0, 2, 3, 2, 4, 1, 5, 2, 6, 2, 7, 0, 2, 3, 3, 2, 0, 2, 4, 1, 5, 2, 6, 2, 7, 0, 2, 4, 1, 5, 2, 0, 2, 6, 2, 7, 0])]
def m113 : MC :=
  (.seq
 (.reg false [2, 3, 4] [oX 2 (.box (.t 0)),
 oX 3 (.box (.t 1)),
 oX 4 (.alloc (.st (.cons (.int .i64 0) (.cons (.sl true 4 .nil) (.cons (.int .i64 0) (.cons (.int .i64 0) (.cons (.sl true 1 .nil) .nil))))))),
 oQ 5 (.mov (kB false))])
 (.seq
 (.reg false [2, 3, 4, 6, 7] [oQ 9 (.ldv 5 (.t 2)),
 oX 10 (.call 121 [(.t 9)]),
 oX 6 (.alloc (.st (.cons (.int .i64 0) (.cons (.sl true 4 .nil) (.cons (.int .i64 0) (.cons (.int .i64 0) (.cons (.sl true 1 .nil) .nil))))))),
 oN (.st 5 (.t 6) (.t 10)),
 oQ 7 (.mov (kB true))])
 (.seq
 (.reg false [2, 3, 4, 6, 7, 8] [oQ 11 (.ldv 5 (.t 2)),
 oQ 12 (.fa 1 1 (.t 3)),
 oQ 13 (.ld none (.t 12)),
 oX 14 (.call 142 [(.t 11), (.t 13)]),
 oQ 8 (.mov (.t 14))])
 (.seq
 (.seq
 (.reg false [2, 3, 4, 6, 7, 8, 16] [oQ 15 (.fa 0 0 (.t 3)),
 oQ 16 (.ld none (.t 15))])
 (.block 0
 (.seq
 (.reg false [2, 3, 4, 6, 7, 8, 16, 23] [oQ 24 (.bin .eql (.t 16) (kI 1)),
 oQ 23 (.mov (.t 24))])
 (.cond (.t 23)
 (.seq
 (.seq
 (.reg false [2, 3, 4, 6, 7, 30] [oQ 25 (.fa 3 3 (.t 3)),
 oQ 26 (.ld none (.t 25)),
 oQ 27 (.fa 0 0 (.t 2)),
 oQ 28 (.ld none (.t 27)),
 oQ 29 (.bin .sub (kI 20000) (.t 28)),
 oQ 30 (.bin .gtr (.t 26) (.t 29))])
 (.cond (.t 30)
 (.seq
 (.reg false [4, 5] [oQ 31 (.ldv 5 (.t 6)),
 oN (.st 5 (.t 4) (.t 31)),
 oQ 5 (.mov (kB false))])
 .ret)
 .skip))
 (.reg false [4, 6, 7] [oQ 32 (.fa 0 0 (.t 2)),
 oQ 33 (.ld none (.t 32)),
 oQ 34 (.fa 3 3 (.t 3)),
 oQ 35 (.ld none (.t 34)),
 oQ 36 (.bin .add (.t 33) (.t 35)),
 oQ 37 (.fa 0 0 (.t 6)),
 oN (.st 1 (.t 37) (.t 36))]))
 (.seq
 (.reg false [2, 3, 4, 6, 7, 8, 16, 38] [oQ 39 (.bin .eql (.t 16) (kI 2)),
 oQ 38 (.mov (.t 39))])
 (.cond (.t 38)
 (.seq
 (.seq
 (.reg false [2, 3, 4, 6, 7, 45] [oQ 40 (.fa 3 3 (.t 3)),
 oQ 41 (.ld none (.t 40)),
 oQ 42 (.fa 0 0 (.t 2)),
 oQ 43 (.ld none (.t 42)),
 oQ 44 (.bin .sub (kI 20000) (.t 43)),
 oQ 45 (.bin .gtr (.t 41) (.t 44))])
 (.cond (.t 45)
 (.seq
 (.reg false [4, 5] [oQ 46 (.ldv 5 (.t 6)),
 oN (.st 5 (.t 4) (.t 46)),
 oQ 5 (.mov (kB false))])
 .ret)
 .skip))
 (.reg false [4, 6, 7] [oQ 47 (.ldv 5 (.t 2)),
 oQ 48 (.ld (some 4) (.t 3)),
 oX 49 (.call 178 [(.t 47), (.t 48)]),
 oN (.st 5 (.t 6) (.t 49))]))
 (.seq
 (.reg false [2, 3, 4, 6, 7, 8, 16, 50] [oQ 51 (.bin .eql (.t 16) (kI 3)),
 oQ 50 (.mov (.t 51))])
 (.cond (.t 50)
 (.seq
 (.seq
 (.reg true [3, 4, 6, 7, 8, 60] [oQ 52 (.fa 1 1 (.t 2)),
 oQ 53 (.ld none (.t 52)),
 oQ 54 (.mov (.t 8)),
 oQ 55 (.ia 4 (.t 53) (.t 54)),
 oQ 56 (.fa 3 3 (.t 55)),
 oQ 57 (.ld none (.t 56)),
 oQ 58 (.fa 3 3 (.t 3)),
 oQ 59 (.ld none (.t 58)),
 oQ 60 (.callP 137 [(.t 57), (.t 59)])])
 (.cond (.t 60)
 (.seq
 (.reg false [4, 5] [oQ 61 (.ldv 5 (.t 6)),
 oN (.st 5 (.t 4) (.t 61)),
 oQ 5 (.mov (kB false))])
 .ret)
 .skip))
 (.any [14] [4, 6, 7] (.q 0 (oQ 62 (.fa 1 1 (.t 6))) (.q 1 (oQ 63 (.ld none (.t 62))) (.q 2 (oQ 64 (.mov (.t 8))) (.q 3 (oQ 65 (.fa 1 1 (.t 6))) (.q 4 (oQ 66 (.ld none (.t 65))) (.q 5 (oQ 67 (.mov (.t 8))) (.q 6 (oQ 68 (.ia 4 (.t 66) (.t 67))) (.q 7 (oQ 69 (.fa 3 3 (.t 68))) (.q 8 (oQ 70 (.ld none (.t 69))) (.q 9 (oQ 71 (.fa 3 3 (.t 3))) (.q 10 (oQ 72 (.ld none (.t 71))) (.e 11 (oX 73 (.call 179 [(.t 70), (.t 72)])) (.q 12 (oQ 74 (.ia 4 (.t 63) (.t 64))) (.q 13 (oQ 75 (.fa 3 3 (.t 74))) (.e 14 (oN (.st 1 (.t 75) (.t 73))) .done)))))))))))))))))
 (.seq
 (.reg false [2, 3, 4, 6, 7, 8, 16, 76] [oQ 77 (.bin .eql (.t 16) (kI 4)),
 oQ 76 (.mov (.t 77))])
 (.cond (.t 76)
 (.reg false [4, 6, 7] [oQ 79 (.ldv 5 (.t 2)),
 oQ 80 (.fa 3 3 (.t 3)),
 oQ 81 (.ld none (.t 80)),
 oX 82 (.call 180 [(.t 79), (.t 81)]),
 oQ 78 (.mov (.t 82)),
 oQ 83 (.ext (.t 78) 0),
 oQ 84 (.ext (.t 78) 1),
 oN (.st 5 (.t 6) (.t 83)),
 oQ 7 (.mov (.t 84))])
 (.seq
 (.reg false [2, 3, 4, 6, 7, 8, 85] [oQ 86 (.bin .eql (.t 16) (kI 5)),
 oQ 85 (.mov (.t 86))])
 (.cond (.t 85)
 (.seq
 (.seq
 (.reg true [2, 3, 4, 6, 7, 8, 96] [oQ 87 (.fa 3 3 (.t 3)),
 oQ 88 (.ld none (.t 87)),
 oQ 89 (.fa 1 1 (.t 2)),
 oQ 90 (.ld none (.t 89)),
 oQ 91 (.mov (.t 8)),
 oQ 92 (.ia 4 (.t 90) (.t 91)),
 oQ 93 (.fa 2 2 (.t 92)),
 oQ 94 (.ld none (.t 93)),
 oQ 95 (.bin .sub (kI 20000) (.t 94)),
 oQ 96 (.bin .gtr (.t 88) (.t 95))])
 (.cond (.t 96)
 (.seq
 (.reg false [4, 5] [oQ 97 (.ldv 5 (.t 6)),
 oN (.st 5 (.t 4) (.t 97)),
 oQ 5 (.mov (kB false))])
 .ret)
 .skip))
 (.any [14] [4, 6, 7] (.q 0 (oQ 98 (.fa 1 1 (.t 6))) (.q 1 (oQ 99 (.ld none (.t 98))) (.q 2 (oQ 100 (.mov (.t 8))) (.q 3 (oQ 101 (.fa 1 1 (.t 2))) (.q 4 (oQ 102 (.ld none (.t 101))) (.q 5 (oQ 103 (.mov (.t 8))) (.q 6 (oQ 104 (.ia 4 (.t 102) (.t 103))) (.q 7 (oQ 105 (.fa 2 2 (.t 104))) (.q 8 (oQ 106 (.ld none (.t 105))) (.q 9 (oQ 107 (.fa 3 3 (.t 3))) (.q 10 (oQ 108 (.ld none (.t 107))) (.q 11 (oQ 109 (.bin .add (.t 106) (.t 108))) (.q 12 (oQ 110 (.ia 4 (.t 99) (.t 100))) (.q 13 (oQ 111 (.fa 2 2 (.t 110))) (.e 14 (oN (.st 1 (.t 111) (.t 109))) .done)))))))))))))))))
 (.reg false [4, 6, 7] [oQ 18 (.ldv 5 (.t 2)),
 oQ 19 (.mov (.t 8)),
 oX 20 (.call 181 [(.t 18), (.t 19)]),
 oQ 17 (.mov (.t 20)),
 oQ 21 (.ext (.t 17) 0),
 oQ 22 (.ext (.t 17) 1),
 oN (.st 5 (.t 6) (.t 21)),
 oQ 7 (.mov (.t 22))])))))))))))))
 (.seq
 (.any [6, 7] [4, 5] (.q 1 (oQ 113 (.mov (.t 7))) (.q 2 (oQ 114 (.mov (.t 113))) (.br (.e 0 (oQ 112 (.ldv 5 (.t 6))) (.e 3 (oG 115 114 true (.ldv 5 (.t 6))) (.e 4 (oH 116 114 true (.call 111 [(.t 115)])) (.q 5 (oQ 117 (.pick (.t 114) (.t 116) (kB false))) (.e 6 (oN (.st 5 (.t 4) (.t 112))) (.e 7 (oQ 5 (.mov (.t 117))) .done))))))
 (.e 3 (oG 115 114 true (.ldv 5 (.t 6))) (.br (.e 0 (oQ 112 (.ldv 5 (.t 6))) (.e 4 (oH 116 114 true (.call 111 [(.t 115)])) (.q 5 (oQ 117 (.pick (.t 114) (.t 116) (kB false))) (.e 6 (oN (.st 5 (.t 4) (.t 112))) (.e 7 (oQ 5 (.mov (.t 117))) .done)))))
 (.e 4 (oH 116 114 true (.call 111 [(.t 115)])) (.q 5 (oQ 117 (.pick (.t 114) (.t 116) (kB false))) (.e 0 (oQ 112 (.ldv 5 (.t 6))) (.e 6 (oN (.st 5 (.t 4) (.t 112))) (.e 7 (oQ 5 (.mov (.t 117))) .done)))))))))))
 .ret)))))
theorem c113 : (Go.Proofs.Tryz.f113).body.bind (comp prog.P (2, (Go.Proofs.Tryz.f113).ntmps) lv113) = some m113 := by kernel_rfl
theorem r113 : resOK prog.P (Go.Proofs.Tryz.f113).results.toList = true := by kernel_rfl
def lv115 : List (Nat × List Nat) := [(0, [0]), (1, [2])]
def m115 : MC :=
  (.seq
 (.reg false [0] [oQ 2 (.mov (kB false))])
 (.seq
 (.reg false [2] [oQ 3 (.mov (.t 0)),
 oX 4 (.call 105 [(.t 3), (kI 0), (kI 20000)]),
 oQ 2 (.mov (.t 4))])
 .ret))
theorem c115 : (Go.Proofs.Tryz.f115).body.bind (comp prog.P (1, (Go.Proofs.Tryz.f115).ntmps) lv115) = some m115 := by kernel_rfl
theorem r115 : resOK prog.P (Go.Proofs.Tryz.f115).results.toList = true := by kernel_rfl
def lv116 : List (Nat × List Nat) := [(0, [0]), (1, [2])]
def m116 : MC :=
  (.seq
 (.reg false [0] [oQ 2 (.mov (kB false))])
 (.seq
 (.reg false [2] [oQ 3 (.mov (.t 0)),
 oQ 4 (.len false (.t 3)),
 oX 5 (.call 105 [(.t 4), (kI 1), (kI 8)]),
 oQ 6 (.mov (.t 5)),
 oG 7 6 true (.mov (.t 0)),
 oH 8 6 true (.call 182 [(.t 7), (.k (.d (.clo 183 .nil)))]),
 oG 9 6 true (.un .not (.t 8)),
 oQ 10 (.pick (.t 6) (.t 9) (kB false)),
 oQ 2 (.mov (.t 10))])
 .ret))
theorem c116 : (Go.Proofs.Tryz.f116).body.bind (comp prog.P (1, (Go.Proofs.Tryz.f116).ntmps) lv116) = some m116 := by kernel_rfl
theorem r116 : resOK prog.P (Go.Proofs.Tryz.f116).results.toList = true := by kernel_rfl
end Go.Pe.Tryz
