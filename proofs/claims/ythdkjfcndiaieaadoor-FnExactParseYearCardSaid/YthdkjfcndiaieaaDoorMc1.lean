/-
The compact code of the functions that the law reaches, printed by gen.py, each with the proof that the machine's code is compiled to it.
-/
import Derived.Test.YthdkjfcndiaieaaDoorPeC
import Derived.Lib.ItoaNum
import Derived.Lib.LaidTab
import Derived.Test.YthdkjfcndiaieaaDoorProg
import Derived.KernelRfl
set_option maxRecDepth 100000
namespace Go.Pe.Tryd
open Go.Pe

/-- of the start-up memory it is asked that the library's table of powers of ten stands, that a number of the library's is there. -/
theorem tab_stab {P : Program} {n : String} {k : IntKind} {zs : List Int} {g : Nat} (hg : P.globalNamed n = some g) (w w' : World) (_ : w.heap.size ≤ w'.heap.size) (hk : ∀ b, b < w.heap.size → w'.heap[b]? = w.heap[b]?) (h : Go.Lib.TabIs P w n k zs) : Go.Lib.TabIs P w' n k zs := by
  unfold Go.Lib.TabIs World.var? at h ⊢
  rw [hg] at h ⊢
  simp only [Option.bind_some] at h ⊢
  by_cases hb : g < w.heap.size
  · rw [hk g hb]; exact h
  · rw [Array.getElem?_eq_none (by omega)] at h
    simp at h
theorem cell_stab (g : Nat) (w w' : World) (hk : ∀ b, b < w.heap.size → w'.heap[b]? = w.heap[b]?) (h : ∃ m, w.cell? ⟨g, 0, none⟩ = some (.int .i64 m)) : ∃ m, w'.cell? ⟨g, 0, none⟩ = some (.int .i64 m) := by
  obtain ⟨m, h⟩ := h
  by_cases hb : g < w.heap.size
  · refine ⟨m, ?_⟩
    unfold World.cell? at h ⊢
    rw [hk g hb]; exact h
  · have hn : w.heap[g]? = none := Array.getElem?_eq_none (by omega)
    simp [World.cell?, hn] at h
noncomputable def prog : PG := ⟨Go.Proofs.Tryd.prog, fun w => (Go.Lib.TabIs Go.Proofs.Tryd.prog w "internal/strconv.uint64pow10" .u64 Go.Lib.pow10Tab) ∧ (∃ m, w.cell? ⟨0, 0, none⟩ = some (.int .i64 m)), fun w w' hs hk h => ⟨tab_stab (show Go.Proofs.Tryd.prog.globalNamed "internal/strconv.uint64pow10" = some 3 by kernel_rfl) w w' hs hk h.1, cell_stab 0 w w' hk h.2⟩⟩
theorem tabOf {w : World} (h : prog.F w) : Go.Lib.TabIs Go.Proofs.Tryd.prog w "internal/strconv.uint64pow10" .u64 Go.Lib.pow10Tab := h.1
theorem maxOf {w : World} (h : prog.F w) : ∃ m, w.cell? ⟨0, 0, none⟩ = some (.int .i64 m) := h.2

/-- laws.FnExactParseYear -/
def lv3 : List (Nat × List Nat) := [(0, [0]), (1, [0, 13]), (2, [2]), (3, [0, 3, 4, 5, 6]), (4, [3, 4, 5, 6, 7, 8, 9, 10]), (5, [45]), (6, [2]), (7, [2])]
def m3 : MC :=
  (.seq
 (.reg false [0] [⟨(some 2), none, false, .mov (.k (.d (.bool false)))⟩])
 (.seq
 (.seq
 (.reg false [0, 13] [⟨(some 11), none, false, .mov (.t 0)⟩,
 ⟨(some 12), none, false, .len true (.t 11)⟩,
 ⟨(some 13), none, false, .bin .gtr (.t 12) (.k (.d (.int .i64 1048576)))⟩])
 (.cond (.t 13)
 (.seq
 (.reg false [2] [⟨(some 2), none, false, .mov (.k (.d (.bool true)))⟩])
 .ret)
 .skip))
 (.seq
 (.reg false [0, 3, 4, 5, 6] [⟨(some 15), none, false, .mov (.t 0)⟩,
 ⟨(some 16), none, true, .call 6 [(.t 15)]⟩,
 ⟨(some 14), none, false, .mov (.t 16)⟩,
 ⟨(some 17), none, false, .ext (.t 14) 0⟩,
 ⟨(some 18), none, false, .ext (.t 14) 1⟩,
 ⟨(some 19), none, false, .ext (.t 14) 2⟩,
 ⟨(some 20), none, false, .ext (.t 14) 3⟩,
 ⟨(some 3), none, false, .mov (.t 17)⟩,
 ⟨(some 4), none, false, .mov (.t 18)⟩,
 ⟨(some 5), none, false, .mov (.t 19)⟩,
 ⟨(some 6), none, false, .mov (.t 20)⟩])
 (.seq
 (.reg false [3, 4, 5, 6, 7, 8, 9, 10] [⟨(some 22), none, false, .mov (.t 0)⟩,
 ⟨(some 23), none, true, .call 7 [(.t 22)]⟩,
 ⟨(some 21), none, false, .mov (.t 23)⟩,
 ⟨(some 24), none, false, .ext (.t 21) 0⟩,
 ⟨(some 25), none, false, .ext (.t 21) 1⟩,
 ⟨(some 26), none, false, .ext (.t 21) 2⟩,
 ⟨(some 27), none, false, .ext (.t 21) 3⟩,
 ⟨(some 7), none, false, .mov (.t 24)⟩,
 ⟨(some 8), none, false, .mov (.t 25)⟩,
 ⟨(some 9), none, false, .mov (.t 26)⟩,
 ⟨(some 10), none, false, .mov (.t 27)⟩])
 (.seq
 (.seq
 (.reg false [45] [⟨(some 28), none, false, .mov (.t 7)⟩,
 ⟨(some 29), none, false, .mov (.t 3)⟩,
 ⟨(some 30), none, false, .bin .neq (.t 28) (.t 29)⟩,
 ⟨(some 31), none, false, .mov (.t 30)⟩,
 ⟨(some 32), (some (31, false)), false, .mov (.t 8)⟩,
 ⟨(some 33), (some (31, false)), false, .mov (.t 4)⟩,
 ⟨(some 34), (some (31, false)), false, .bin .neq (.t 32) (.t 33)⟩,
 ⟨(some 35), none, false, .pick (.t 31) (.k (.d (.bool true))) (.t 34)⟩,
 ⟨(some 36), none, false, .mov (.t 35)⟩,
 ⟨(some 37), (some (36, false)), false, .mov (.t 9)⟩,
 ⟨(some 38), (some (36, false)), false, .mov (.t 5)⟩,
 ⟨(some 39), (some (36, false)), false, .bin .neq (.t 37) (.t 38)⟩,
 ⟨(some 40), none, false, .pick (.t 36) (.k (.d (.bool true))) (.t 39)⟩,
 ⟨(some 41), none, false, .mov (.t 40)⟩,
 ⟨(some 42), (some (41, false)), false, .mov (.t 10)⟩,
 ⟨(some 43), (some (41, false)), false, .mov (.t 6)⟩,
 ⟨(some 44), (some (41, false)), false, .bb .neq (.t 42) (.t 43)⟩,
 ⟨(some 45), none, false, .pick (.t 41) (.k (.d (.bool true))) (.t 44)⟩])
 (.cond (.t 45)
 (.seq
 (.reg false [2] [⟨(some 2), none, false, .mov (.k (.d (.bool false)))⟩])
 .ret)
 .skip))
 (.seq
 (.reg false [2] [⟨(some 2), none, false, .mov (.k (.d (.bool true)))⟩])
 .ret))))))
theorem c3 : (Go.Proofs.Tryd.f3).body.bind (comp prog.P (1, (Go.Proofs.Tryd.f3).ntmps) lv3) = some m3 := by kernel_rfl
theorem r3 : resOK prog.P (Go.Proofs.Tryd.f3).results.toList = true := by kernel_rfl

/-- spec.ParseYear -/
def lv6 : List (Nat × List Nat) := [(0, [0]), (1, [0, 6]), (2, [0, 6, 40]), (3, [2, 3, 4, 5]), (4, [0, 6, 7]), (5, [0, 6, 7]), (6, [0, 6, 7]), (7, [0, 6, 7, 8, 9]), (8, [0, 6, 7, 8, 9, 82]), (9, [0, 7, 8, 9]), (10, [0, 7, 8, 104]), (11, [2, 3, 4, 5]), (12, [0, 7, 8]), (13, [0, 7, 8]), (14, [7, 8, 127]), (15, [2, 3, 4, 5]), (16, [2, 3, 4, 5]), (1000005, [1, 14, 1, 0, 1, 1, 1, 2, 1, 3, 1, 4, 1, 5, 1, 6, 1, 7, 1, 8, 2, 9, 1, 10, 1, 11, 1, 12, 1, 13, 2, 14, 0])]
def m6 : MC :=
  (.seq
 (.reg false [0] [⟨(some 2), none, false, .mov (.k (.d (.int .i64 0)))⟩,
 ⟨(some 3), none, false, .mov (.k (.d (.int .i64 0)))⟩,
 ⟨(some 4), none, false, .mov (.k (.d (.int .i64 0)))⟩,
 ⟨(some 5), none, false, .mov (.k (.d (.bool false)))⟩])
 (.seq
 (.reg false [0, 6] [⟨(some 10), none, false, .mov (.t 0)⟩,
 ⟨(some 11), none, true, .call 26 [(.t 10), (.k (.d (.int .u8 32)))]⟩,
 ⟨(some 6), none, false, .mov (.t 11)⟩])
 (.seq
 (.seq
 (.reg false [0, 6, 40] [⟨(some 12), none, false, .mov (.t 0)⟩,
 ⟨(some 13), none, false, .len true (.t 12)⟩,
 ⟨(some 14), none, false, .bin .gtr (.t 13) (.k (.d (.int .i64 60)))⟩,
 ⟨(some 15), none, false, .mov (.t 14)⟩,
 ⟨(some 16), (some (15, false)), false, .mov (.t 6)⟩,
 ⟨(some 17), (some (15, false)), false, .len false (.t 16)⟩,
 ⟨(some 18), (some (15, false)), false, .bin .lss (.t 17) (.k (.d (.int .i64 3)))⟩,
 ⟨(some 19), none, false, .pick (.t 15) (.k (.d (.bool true))) (.t 18)⟩,
 ⟨(some 20), none, false, .mov (.t 19)⟩,
 ⟨(some 21), (some (20, false)), false, .mov (.t 6)⟩,
 ⟨(some 22), (some (20, false)), false, .ia 1 (.t 21) (.k (.d (.int .i64 0)))⟩,
 ⟨(some 23), (some (20, false)), false, .ld none (.t 22)⟩,
 ⟨(some 24), (some (20, false)), false, .len true (.t 23)⟩,
 ⟨(some 25), (some (20, false)), false, .bin .lss (.t 24) (.k (.d (.int .i64 2)))⟩,
 ⟨(some 26), none, false, .pick (.t 20) (.k (.d (.bool true))) (.t 25)⟩,
 ⟨(some 27), none, false, .mov (.t 26)⟩,
 ⟨(some 28), (some (27, false)), false, .mov (.t 6)⟩,
 ⟨(some 29), (some (27, false)), false, .ia 1 (.t 28) (.k (.d (.int .i64 1)))⟩,
 ⟨(some 30), (some (27, false)), false, .ld none (.t 29)⟩,
 ⟨(some 31), (some (27, false)), false, .len true (.t 30)⟩,
 ⟨(some 32), (some (27, false)), false, .bin .lss (.t 31) (.k (.d (.int .i64 2)))⟩,
 ⟨(some 33), none, false, .pick (.t 27) (.k (.d (.bool true))) (.t 32)⟩,
 ⟨(some 34), none, false, .mov (.t 33)⟩,
 ⟨(some 35), (some (34, false)), false, .mov (.t 6)⟩,
 ⟨(some 36), (some (34, false)), false, .ia 1 (.t 35) (.k (.d (.int .i64 2)))⟩,
 ⟨(some 37), (some (34, false)), false, .ld none (.t 36)⟩,
 ⟨(some 38), (some (34, false)), false, .len true (.t 37)⟩,
 ⟨(some 39), (some (34, false)), false, .bin .lss (.t 38) (.k (.d (.int .i64 2)))⟩,
 ⟨(some 40), none, false, .pick (.t 34) (.k (.d (.bool true))) (.t 39)⟩])
 (.cond (.t 40)
 (.seq
 (.reg false [2, 3, 4, 5] [⟨(some 2), none, false, .mov (.k (.d (.int .i64 0)))⟩,
 ⟨(some 3), none, false, .mov (.k (.d (.int .i64 0)))⟩,
 ⟨(some 4), none, false, .mov (.k (.d (.int .i64 0)))⟩,
 ⟨(some 5), none, false, .mov (.k (.d (.bool false)))⟩])
 .ret)
 .skip))
 (.seq
 (.reg false [0, 6, 7] [⟨(some 41), none, true, .bld (.cons (.int .i64 0) (.cons (.int .i64 0) (.cons (.int .i64 0) (.cons (.int .i64 0) (.cons (.int .i64 0) .nil))))) []⟩,
 ⟨(some 7), none, true, .alloc (.st (.cons (.int .i64 0) (.cons (.int .i64 0) (.cons (.int .i64 0) (.cons (.int .i64 0) (.cons (.int .i64 0) .nil))))))⟩,
 ⟨none, none, true, .st 5 (.t 7) (.t 41)⟩])
 (.seq
 (.any [14] [0, 6, 7] (.q 0 ⟨(some 43), none, false, .mov (.t 6)⟩ (.q 1 ⟨(some 44), none, false, .ia 1 (.t 43) (.k (.d (.int .i64 0)))⟩ (.q 2 ⟨(some 45), none, false, .ld none (.t 44)⟩ (.q 3 ⟨(some 46), none, false, .mov (.t 6)⟩ (.q 4 ⟨(some 47), none, false, .ia 1 (.t 46) (.k (.d (.int .i64 0)))⟩ (.q 5 ⟨(some 48), none, false, .ld none (.t 47)⟩ (.q 6 ⟨(some 49), none, false, .len true (.t 48)⟩ (.q 7 ⟨(some 50), none, false, .bin .sub (.t 49) (.k (.d (.int .i64 1)))⟩ (.q 8 ⟨(some 51), none, false, .sls (.t 45) none (some (.t 50))⟩ (.e 9 ⟨(some 52), none, true, .call 27 [(.t 51)]⟩ (.q 10 ⟨(some 42), none, false, .mov (.t 52)⟩ (.q 11 ⟨(some 53), none, false, .ext (.t 42) 0⟩ (.q 12 ⟨(some 54), none, false, .ext (.t 42) 1⟩ (.q 13 ⟨(some 55), none, false, .fa 0 0 (.t 7)⟩ (.e 14 ⟨none, none, true, .st 1 (.t 55) (.t 53)⟩ .done))))))))))))))))
 (.seq
 (.reg false [0, 6, 7] [⟨(some 57), none, false, .mov (.t 6)⟩,
 ⟨(some 58), none, false, .ia 1 (.t 57) (.k (.d (.int .i64 1)))⟩,
 ⟨(some 59), none, false, .ld none (.t 58)⟩,
 ⟨(some 60), none, false, .sls (.t 59) (some (.k (.d (.int .i64 1)))) none⟩,
 ⟨(some 61), none, true, .call 27 [(.t 60)]⟩,
 ⟨(some 56), none, false, .mov (.t 61)⟩,
 ⟨(some 62), none, false, .ext (.t 56) 0⟩,
 ⟨(some 63), none, false, .ext (.t 56) 1⟩,
 ⟨(some 64), none, false, .fa 1 1 (.t 7)⟩,
 ⟨none, none, true, .st 1 (.t 64) (.t 62)⟩])
 (.seq
 (.reg false [0, 6, 7, 8, 9] [⟨(some 66), none, false, .mov (.t 6)⟩,
 ⟨(some 67), none, false, .ia 1 (.t 66) (.k (.d (.int .i64 2)))⟩,
 ⟨(some 68), none, false, .ld none (.t 67)⟩,
 ⟨(some 69), none, false, .sls (.t 68) (some (.k (.d (.int .i64 1)))) none⟩,
 ⟨(some 70), none, true, .call 27 [(.t 69)]⟩,
 ⟨(some 65), none, false, .mov (.t 70)⟩,
 ⟨(some 71), none, false, .ext (.t 65) 0⟩,
 ⟨(some 72), none, false, .ext (.t 65) 1⟩,
 ⟨(some 8), none, false, .mov (.t 71)⟩,
 ⟨(some 9), none, false, .mov (.t 72)⟩])
 (.seq
 (.seq
 (.reg false [0, 6, 7, 8, 9, 82] [⟨(some 73), none, false, .mov (.t 6)⟩,
 ⟨(some 74), none, false, .len false (.t 73)⟩,
 ⟨(some 75), none, false, .bin .gtr (.t 74) (.k (.d (.int .i64 3)))⟩,
 ⟨(some 76), none, false, .mov (.t 75)⟩,
 ⟨(some 77), (some (76, true)), false, .mov (.t 6)⟩,
 ⟨(some 78), (some (76, true)), false, .ia 1 (.t 77) (.k (.d (.int .i64 3)))⟩,
 ⟨(some 79), (some (76, true)), false, .ld none (.t 78)⟩,
 ⟨(some 80), (some (76, true)), false, .len true (.t 79)⟩,
 ⟨(some 81), (some (76, true)), false, .bin .gtr (.t 80) (.k (.d (.int .i64 1)))⟩,
 ⟨(some 82), none, false, .pick (.t 76) (.t 81) (.k (.d (.bool false)))⟩])
 (.cond (.t 82)
 (.reg false [0, 7, 8, 9] [⟨(some 84), none, false, .mov (.t 6)⟩,
 ⟨(some 85), none, false, .ia 1 (.t 84) (.k (.d (.int .i64 3)))⟩,
 ⟨(some 86), none, false, .ld none (.t 85)⟩,
 ⟨(some 87), none, false, .sls (.t 86) (some (.k (.d (.int .i64 1)))) none⟩,
 ⟨(some 88), none, true, .call 27 [(.t 87)]⟩,
 ⟨(some 83), none, false, .mov (.t 88)⟩,
 ⟨(some 89), none, false, .ext (.t 83) 0⟩,
 ⟨(some 90), none, false, .ext (.t 83) 1⟩,
 ⟨(some 91), none, false, .fa 3 3 (.t 7)⟩,
 ⟨none, none, true, .st 1 (.t 91) (.t 89)⟩])
 .skip))
 (.seq
 (.seq
 (.reg false [0, 7, 8, 104] [⟨(some 92), none, false, .mov (.t 9)⟩,
 ⟨(some 93), none, false, .un .not (.t 92)⟩,
 ⟨(some 94), none, false, .mov (.t 93)⟩,
 ⟨(some 95), (some (94, false)), false, .fa 3 3 (.t 7)⟩,
 ⟨(some 96), (some (94, false)), false, .ld none (.t 95)⟩,
 ⟨(some 97), (some (94, false)), false, .bin .lss (.t 96) (.k (.d (.int .i64 0)))⟩,
 ⟨(some 98), none, false, .pick (.t 94) (.k (.d (.bool true))) (.t 97)⟩,
 ⟨(some 99), none, false, .mov (.t 98)⟩,
 ⟨(some 100), (some (99, false)), false, .fa 3 3 (.t 7)⟩,
 ⟨(some 101), (some (99, false)), false, .ld none (.t 100)⟩,
 ⟨(some 102), (some (99, false)), false, .mov (.t 8)⟩,
 ⟨(some 103), (some (99, false)), false, .bin .gtr (.t 101) (.t 102)⟩,
 ⟨(some 104), none, false, .pick (.t 99) (.k (.d (.bool true))) (.t 103)⟩])
 (.cond (.t 104)
 (.seq
 (.reg false [2, 3, 4, 5] [⟨(some 2), none, false, .mov (.k (.d (.int .i64 0)))⟩,
 ⟨(some 3), none, false, .mov (.k (.d (.int .i64 0)))⟩,
 ⟨(some 4), none, false, .mov (.k (.d (.int .i64 0)))⟩,
 ⟨(some 5), none, false, .mov (.k (.d (.bool false)))⟩])
 .ret)
 .skip))
 (.seq
 (.reg false [0, 7, 8] [⟨(some 105), none, false, .mov (.t 8)⟩,
 ⟨(some 106), none, false, .fa 3 3 (.t 7)⟩,
 ⟨(some 107), none, false, .ld none (.t 106)⟩,
 ⟨(some 108), none, false, .bin .sub (.t 105) (.t 107)⟩,
 ⟨(some 109), none, true, .call 28 [(.k (.d (.int .i64 9999))), (.t 108)]⟩,
 ⟨(some 110), none, false, .fa 2 2 (.t 7)⟩,
 ⟨none, none, true, .st 1 (.t 110) (.t 109)⟩])
 (.seq
 (.reg false [0, 7, 8] [⟨(some 111), none, false, .mov (.t 8)⟩,
 ⟨(some 112), none, false, .fa 3 3 (.t 7)⟩,
 ⟨(some 113), none, false, .ld none (.t 112)⟩,
 ⟨(some 114), none, false, .bin .sub (.t 111) (.t 113)⟩,
 ⟨(some 115), none, false, .fa 2 2 (.t 7)⟩,
 ⟨(some 116), none, false, .ld none (.t 115)⟩,
 ⟨(some 117), none, false, .bin .sub (.t 114) (.t 116)⟩,
 ⟨(some 118), none, false, .fa 4 4 (.t 7)⟩,
 ⟨none, none, true, .st 1 (.t 118) (.t 117)⟩])
 (.seq
 (.seq
 (.reg false [7, 8, 127] [⟨(some 119), none, false, .ld (some 5) (.t 7)⟩,
 ⟨(some 120), none, true, .call 29 [(.t 119)]⟩,
 ⟨(some 121), none, false, .un .not (.t 120)⟩,
 ⟨(some 122), none, false, .mov (.t 121)⟩,
 ⟨(some 123), (some (122, false)), false, .ld (some 5) (.t 7)⟩,
 ⟨(some 124), (some (122, false)), true, .call 30 [(.t 123)]⟩,
 ⟨(some 125), (some (122, false)), false, .mov (.t 0)⟩,
 ⟨(some 126), (some (122, false)), false, .bin .neq (.t 124) (.t 125)⟩,
 ⟨(some 127), none, false, .pick (.t 122) (.k (.d (.bool true))) (.t 126)⟩])
 (.cond (.t 127)
 (.seq
 (.reg false [2, 3, 4, 5] [⟨(some 2), none, false, .mov (.k (.d (.int .i64 0)))⟩,
 ⟨(some 3), none, false, .mov (.k (.d (.int .i64 0)))⟩,
 ⟨(some 4), none, false, .mov (.k (.d (.int .i64 0)))⟩,
 ⟨(some 5), none, false, .mov (.k (.d (.bool false)))⟩])
 .ret)
 .skip))
 (.seq
 (.reg true [2, 3, 4, 5] [⟨(some 128), none, false, .fa 0 0 (.t 7)⟩,
 ⟨(some 129), none, false, .ld none (.t 128)⟩,
 ⟨(some 130), none, false, .fa 1 1 (.t 7)⟩,
 ⟨(some 131), none, false, .ld none (.t 130)⟩,
 ⟨(some 132), none, false, .mov (.t 8)⟩,
 ⟨(some 2), none, false, .mov (.t 129)⟩,
 ⟨(some 3), none, false, .mov (.t 131)⟩,
 ⟨(some 4), none, false, .mov (.t 132)⟩,
 ⟨(some 5), none, false, .mov (.k (.d (.bool true)))⟩])
 .ret)))))))))))))
theorem c6 : (Go.Proofs.Tryd.f6).body.bind (comp prog.P (1, (Go.Proofs.Tryd.f6).ntmps) lv6) = some m6 := by kernel_rfl
theorem r6 : resOK prog.P (Go.Proofs.Tryd.f6).results.toList = true := by kernel_rfl

/-- impl.ParseYear -/
def lv7 : List (Nat × List Nat) := [(0, [0]), (1, [0, 6, 7]), (2, [0, 6, 7, 9]), (3, [0, 6, 7, 9, 11]), (4, [0, 6, 9, 11, 13]), (5, [0, 11, 15]), (6, [0, 15, 16]), (7, [0, 15, 16]), (8, [0, 15]), (9, [15, 69]), (10, [2, 3, 4, 5]), (11, [2, 3, 4, 5])]
def m7 : MC :=
  (.seq
 (.reg false [0] [⟨(some 2), none, false, .mov (.k (.d (.int .i64 0)))⟩,
 ⟨(some 3), none, false, .mov (.k (.d (.int .i64 0)))⟩,
 ⟨(some 4), none, false, .mov (.k (.d (.int .i64 0)))⟩,
 ⟨(some 5), none, false, .mov (.k (.d (.bool false)))⟩])
 (.seq
 (.reg false [0, 6, 7] [⟨(some 18), none, false, .mov (.t 0)⟩,
 ⟨(some 19), none, true, .call 31 [(.t 18), (.k (.d (.str [58, 32, 43])))]⟩,
 ⟨(some 17), none, false, .mov (.t 19)⟩,
 ⟨(some 20), none, false, .ext (.t 17) 0⟩,
 ⟨(some 21), none, false, .ext (.t 17) 1⟩,
 ⟨(some 22), none, false, .ext (.t 17) 2⟩,
 ⟨(some 6), none, false, .mov (.t 20)⟩,
 ⟨(some 7), none, false, .mov (.t 21)⟩,
 ⟨(some 8), none, false, .mov (.t 22)⟩])
 (.seq
 (.reg false [0, 6, 7, 9] [⟨(some 24), none, false, .mov (.t 7)⟩,
 ⟨(some 25), none, true, .call 31 [(.t 24), (.k (.d (.str [32, 45])))]⟩,
 ⟨(some 23), none, false, .mov (.t 25)⟩,
 ⟨(some 26), none, false, .ext (.t 23) 0⟩,
 ⟨(some 27), none, false, .ext (.t 23) 1⟩,
 ⟨(some 28), none, false, .ext (.t 23) 2⟩,
 ⟨(some 9), none, false, .mov (.t 26)⟩,
 ⟨(some 7), none, false, .mov (.t 27)⟩,
 ⟨(some 10), none, false, .mov (.t 28)⟩])
 (.seq
 (.reg false [0, 6, 7, 9, 11] [⟨(some 30), none, false, .mov (.t 7)⟩,
 ⟨(some 31), none, true, .call 31 [(.t 30), (.k (.d (.str [32, 40])))]⟩,
 ⟨(some 29), none, false, .mov (.t 31)⟩,
 ⟨(some 32), none, false, .ext (.t 29) 0⟩,
 ⟨(some 33), none, false, .ext (.t 29) 1⟩,
 ⟨(some 34), none, false, .ext (.t 29) 2⟩,
 ⟨(some 11), none, false, .mov (.t 32)⟩,
 ⟨(some 7), none, false, .mov (.t 33)⟩,
 ⟨(some 12), none, false, .mov (.t 34)⟩])
 (.seq
 (.reg false [0, 6, 9, 11, 13] [⟨(some 36), none, false, .mov (.t 7)⟩,
 ⟨(some 37), none, true, .call 32 [(.t 36), (.k (.d (.str [32, 100, 101, 115, 116, 114, 111, 121, 101, 100, 41])))]⟩,
 ⟨(some 35), none, false, .mov (.t 37)⟩,
 ⟨(some 38), none, false, .ext (.t 35) 0⟩,
 ⟨(some 39), none, false, .ext (.t 35) 1⟩,
 ⟨(some 13), none, false, .mov (.t 38)⟩,
 ⟨(some 14), none, false, .mov (.t 39)⟩])
 (.seq
 (.reg false [0, 11, 15] [⟨(some 40), none, false, .mov (.t 6)⟩,
 ⟨(some 41), none, true, .call 33 [(.t 40)]⟩,
 ⟨(some 42), none, false, .mov (.t 9)⟩,
 ⟨(some 43), none, true, .call 33 [(.t 42)]⟩,
 ⟨(some 44), none, false, .mov (.t 13)⟩,
 ⟨(some 45), none, true, .call 33 [(.t 44)]⟩,
 ⟨(some 46), none, false, .mx true (.t 45) (.k (.d (.int .i64 0)))⟩,
 ⟨(some 47), none, true, .bld (.cons (.int .i64 0) (.cons (.int .i64 0) (.cons (.int .i64 0) (.cons (.int .i64 0) (.cons (.int .i64 0) .nil))))) [(0, (.t 41)), (1, (.t 43)), (3, (.t 46))]⟩,
 ⟨(some 15), none, true, .alloc (.st (.cons (.int .i64 0) (.cons (.int .i64 0) (.cons (.int .i64 0) (.cons (.int .i64 0) (.cons (.int .i64 0) .nil))))))⟩,
 ⟨none, none, true, .st 5 (.t 15) (.t 47)⟩])
 (.seq
 (.reg true [0, 15, 16] [⟨(some 48), none, false, .mov (.t 11)⟩,
 ⟨(some 49), none, false, .callP 33 [(.t 48)]⟩,
 ⟨(some 50), none, false, .fa 3 3 (.t 15)⟩,
 ⟨(some 51), none, false, .ld none (.t 50)⟩,
 ⟨(some 52), none, false, .bin .sub (.t 49) (.t 51)⟩,
 ⟨(some 16), none, false, .mov (.t 52)⟩])
 (.seq
 (.reg false [0, 15, 16] [⟨(some 53), none, false, .mov (.t 16)⟩,
 ⟨(some 54), none, false, .mx false (.t 53) (.k (.d (.int .i64 9999)))⟩,
 ⟨(some 55), none, false, .fa 2 2 (.t 15)⟩,
 ⟨none, none, true, .st 1 (.t 55) (.t 54)⟩])
 (.seq
 (.reg false [0, 15] [⟨(some 56), none, false, .mov (.t 16)⟩,
 ⟨(some 57), none, false, .fa 2 2 (.t 15)⟩,
 ⟨(some 58), none, false, .ld none (.t 57)⟩,
 ⟨(some 59), none, false, .bin .sub (.t 56) (.t 58)⟩,
 ⟨(some 60), none, false, .fa 4 4 (.t 15)⟩,
 ⟨none, none, true, .st 1 (.t 60) (.t 59)⟩])
 (.seq
 (.seq
 (.reg false [15, 69] [⟨(some 61), none, false, .ld (some 5) (.t 15)⟩,
 ⟨(some 62), none, true, .call 17 [(.t 61)]⟩,
 ⟨(some 63), none, false, .un .not (.t 62)⟩,
 ⟨(some 64), none, false, .mov (.t 63)⟩,
 ⟨(some 65), (some (64, false)), false, .ld (some 5) (.t 15)⟩,
 ⟨(some 66), (some (64, false)), true, .call 34 [(.t 65)]⟩,
 ⟨(some 67), (some (64, false)), false, .mov (.t 0)⟩,
 ⟨(some 68), (some (64, false)), false, .bin .neq (.t 66) (.t 67)⟩,
 ⟨(some 69), none, false, .pick (.t 64) (.k (.d (.bool true))) (.t 68)⟩])
 (.cond (.t 69)
 (.seq
 (.reg false [2, 3, 4, 5] [⟨(some 2), none, false, .mov (.k (.d (.int .i64 0)))⟩,
 ⟨(some 3), none, false, .mov (.k (.d (.int .i64 0)))⟩,
 ⟨(some 4), none, false, .mov (.k (.d (.int .i64 0)))⟩,
 ⟨(some 5), none, false, .mov (.k (.d (.bool false)))⟩])
 .ret)
 .skip))
 (.seq
 (.reg true [2, 3, 4, 5] [⟨(some 70), none, false, .fa 0 0 (.t 15)⟩,
 ⟨(some 71), none, false, .ld none (.t 70)⟩,
 ⟨(some 72), none, false, .fa 1 1 (.t 15)⟩,
 ⟨(some 73), none, false, .ld none (.t 72)⟩,
 ⟨(some 74), none, false, .ld (some 5) (.t 15)⟩,
 ⟨(some 75), none, false, .callP 35 [(.t 74)]⟩,
 ⟨(some 2), none, false, .mov (.t 71)⟩,
 ⟨(some 3), none, false, .mov (.t 73)⟩,
 ⟨(some 4), none, false, .mov (.t 75)⟩,
 ⟨(some 5), none, false, .mov (.k (.d (.bool true)))⟩])
 .ret)))))))))))
theorem c7 : (Go.Proofs.Tryd.f7).body.bind (comp prog.P (1, (Go.Proofs.Tryd.f7).ntmps) lv7) = some m7 := by kernel_rfl
theorem r7 : resOK prog.P (Go.Proofs.Tryd.f7).results.toList = true := by kernel_rfl

/-- impl.IsYearRow -/
def lv17 : List (Nat × List Nat) := [(0, [1]), (1, [2])]
def m17 : MC :=
  (.seq
 (.reg false [1] [⟨(some 1), none, true, .box (.t 0)⟩,
 ⟨(some 2), none, false, .mov (.k (.d (.bool false)))⟩])
 (.seq
 (.reg false [2] [⟨(some 3), none, false, .fa 0 0 (.t 1)⟩,
 ⟨(some 4), none, false, .ld none (.t 3)⟩,
 ⟨(some 5), none, true, .call 41 [(.t 4), (.k (.d (.int .i64 1900))), (.k (.d (.int .i64 2200)))]⟩,
 ⟨(some 6), none, false, .mov (.t 5)⟩,
 ⟨(some 7), (some (6, true)), false, .fa 1 1 (.t 1)⟩,
 ⟨(some 8), (some (6, true)), false, .ld none (.t 7)⟩,
 ⟨(some 9), (some (6, true)), true, .call 42 [(.t 8)]⟩,
 ⟨(some 10), none, false, .pick (.t 6) (.t 9) (.k (.d (.bool false)))⟩,
 ⟨(some 11), none, false, .mov (.t 10)⟩,
 ⟨(some 12), (some (11, true)), false, .fa 2 2 (.t 1)⟩,
 ⟨(some 13), (some (11, true)), false, .ld none (.t 12)⟩,
 ⟨(some 14), (some (11, true)), true, .call 42 [(.t 13)]⟩,
 ⟨(some 15), none, false, .pick (.t 11) (.t 14) (.k (.d (.bool false)))⟩,
 ⟨(some 16), none, false, .mov (.t 15)⟩,
 ⟨(some 17), (some (16, true)), false, .fa 3 3 (.t 1)⟩,
 ⟨(some 18), (some (16, true)), false, .ld none (.t 17)⟩,
 ⟨(some 19), (some (16, true)), true, .call 42 [(.t 18)]⟩,
 ⟨(some 20), none, false, .pick (.t 16) (.t 19) (.k (.d (.bool false)))⟩,
 ⟨(some 21), none, false, .mov (.t 20)⟩,
 ⟨(some 22), (some (21, true)), false, .fa 4 4 (.t 1)⟩,
 ⟨(some 23), (some (21, true)), false, .ld none (.t 22)⟩,
 ⟨(some 24), (some (21, true)), true, .call 42 [(.t 23)]⟩,
 ⟨(some 25), none, false, .pick (.t 21) (.t 24) (.k (.d (.bool false)))⟩,
 ⟨(some 2), none, false, .mov (.t 25)⟩])
 .ret))
theorem c17 : (Go.Proofs.Tryd.f17).body.bind (comp prog.P (1, (Go.Proofs.Tryd.f17).ntmps) lv17) = some m17 := by kernel_rfl
theorem r17 : resOK prog.P (Go.Proofs.Tryd.f17).results.toList = true := by kernel_rfl

/-- spec.l1Split -/
def lv26 : List (Nat × List Nat) := [(0, [0, 1]), (1, [0, 1, 5]), (2, [0, 1, 5, 6]), (3, [0, 1, 5, 6, 7]), (4, [0, 1, 5, 6, 7, 12]), (5, [0, 1, 5, 6, 7]), (6, [0, 1, 5, 6, 7, 19]), (7, [0, 1, 5, 7]), (8, [0, 1, 5, 6, 7]), (9, [4])]
def m26 : MC :=
  (.seq
 (.reg false [0, 1] [⟨(some 4), none, false, .mov (.k .nil)⟩])
 (.seq
 (.reg false [0, 1, 5] [⟨(some 8), none, true, .bs 1 0 (.str []) []⟩,
 ⟨(some 5), none, false, .mov (.t 8)⟩])
 (.seq
 (.reg false [0, 1, 5, 6] [⟨(some 6), none, false, .mov (.k (.d (.int .i64 0)))⟩])
 (.seq
 (.seq
 (.reg false [0, 1, 5, 6, 7] [⟨(some 7), none, false, .mov (.k (.d (.int .i64 0)))⟩])
 (.block 0
 (.loop
 (.seq
 (.seq
 (.reg false [0, 1, 5, 6, 7, 12] [⟨(some 9), none, false, .mov (.t 7)⟩,
 ⟨(some 10), none, false, .mov (.t 0)⟩,
 ⟨(some 11), none, false, .len true (.t 10)⟩,
 ⟨(some 12), none, false, .bin .lss (.t 9) (.t 11)⟩])
 (.cond (.t 12)
 .skip
 (.exit 0)))
 (.seq
 (.block 1
 (.seq
 (.reg false [0, 1, 5, 6, 7, 19] [⟨(some 15), none, false, .mov (.t 0)⟩,
 ⟨(some 16), none, false, .mov (.t 7)⟩,
 ⟨(some 17), none, false, .ix (.t 15) (.t 16)⟩,
 ⟨(some 18), none, false, .mov (.t 1)⟩,
 ⟨(some 19), none, false, .bin .eql (.t 17) (.t 18)⟩])
 (.cond (.t 19)
 (.seq
 (.reg false [0, 1, 5, 7] [⟨(some 20), none, false, .mov (.t 5)⟩,
 ⟨(some 21), none, false, .mov (.t 0)⟩,
 ⟨(some 22), none, false, .mov (.t 6)⟩,
 ⟨(some 23), none, false, .mov (.t 7)⟩,
 ⟨(some 24), none, false, .sls (.t 21) (some (.t 22)) (some (.t 23))⟩,
 ⟨(some 25), none, true, .bs 1 1 (.str []) [(0, (.t 24))]⟩,
 ⟨(some 26), none, true, .app 1 16 (.t 20) (.t 25)⟩,
 ⟨(some 5), none, false, .mov (.t 26)⟩])
 (.reg false [0, 1, 5, 6, 7] [⟨(some 27), none, false, .mov (.t 7)⟩,
 ⟨(some 28), none, false, .bin .add (.t 27) (.k (.d (.int .i64 1)))⟩,
 ⟨(some 6), none, false, .mov (.t 28)⟩]))
 .skip)))
 (.reg false [0, 1, 5, 6, 7] [⟨(some 13), none, false, .mov (.t 7)⟩,
 ⟨(some 14), none, false, .bin .add (.t 13) (.k (.d (.int .i64 1)))⟩,
 ⟨(some 7), none, false, .mov (.t 14)⟩]))))))
 (.seq
 (.reg false [4] [⟨(some 29), none, false, .mov (.t 5)⟩,
 ⟨(some 30), none, false, .mov (.t 0)⟩,
 ⟨(some 31), none, false, .mov (.t 6)⟩,
 ⟨(some 32), none, false, .sls (.t 30) (some (.t 31)) none⟩,
 ⟨(some 33), none, true, .bs 1 1 (.str []) [(0, (.t 32))]⟩,
 ⟨(some 34), none, true, .app 1 16 (.t 29) (.t 33)⟩,
 ⟨(some 4), none, false, .mov (.t 34)⟩])
 .ret)))))
theorem c26 : (Go.Proofs.Tryd.f26).body.bind (comp prog.P (2, (Go.Proofs.Tryd.f26).ntmps) lv26) = some m26 := by kernel_rfl
theorem r26 : resOK prog.P (Go.Proofs.Tryd.f26).results.toList = true := by kernel_rfl

/-- spec.l1Read -/
def lv27 : List (Nat × List Nat) := [(0, [0]), (1, [0, 4]), (2, [0, 4, 15]), (3, [0, 4]), (4, [0, 4, 21]), (5, [2, 3]), (6, [0, 4, 5]), (7, [0, 4, 5, 6]), (8, [0, 4, 5, 6, 25]), (9, [0, 4, 5, 6]), (10, [0, 4, 5, 6, 37]), (11, [2, 3]), (12, [0, 4, 5, 6]), (13, [0, 5, 50]), (14, [0, 5]), (15, [5, 56]), (16, [2, 3]), (17, [2, 3])]
def m27 : MC :=
  (.seq
 (.reg false [0] [⟨(some 2), none, false, .mov (.k (.d (.int .i64 0)))⟩,
 ⟨(some 3), none, false, .mov (.k (.d (.bool false)))⟩])
 (.seq
 (.reg false [0, 4] [⟨(some 7), none, false, .mov (.t 0)⟩,
 ⟨(some 4), none, false, .mov (.t 7)⟩])
 (.seq
 (.seq
 (.reg false [0, 4, 15] [⟨(some 8), none, false, .mov (.t 4)⟩,
 ⟨(some 9), none, false, .len true (.t 8)⟩,
 ⟨(some 10), none, false, .bin .gtr (.t 9) (.k (.d (.int .i64 1)))⟩,
 ⟨(some 11), none, false, .mov (.t 10)⟩,
 ⟨(some 12), (some (11, true)), false, .mov (.t 4)⟩,
 ⟨(some 13), (some (11, true)), false, .ix (.t 12) (.k (.d (.int .i64 0)))⟩,
 ⟨(some 14), (some (11, true)), false, .bin .eql (.t 13) (.k (.d (.int .u8 45)))⟩,
 ⟨(some 15), none, false, .pick (.t 11) (.t 14) (.k (.d (.bool false)))⟩])
 (.cond (.t 15)
 (.reg false [0, 4] [⟨(some 16), none, false, .mov (.t 4)⟩,
 ⟨(some 17), none, false, .sls (.t 16) (some (.k (.d (.int .i64 1)))) none⟩,
 ⟨(some 4), none, false, .mov (.t 17)⟩])
 .skip))
 (.seq
 (.seq
 (.reg false [0, 4, 21] [⟨(some 18), none, false, .mov (.t 4)⟩,
 ⟨(some 19), none, false, .len true (.t 18)⟩,
 ⟨(some 20), none, true, .call 59 [(.t 19), (.k (.d (.int .i64 1))), (.k (.d (.int .i64 6)))]⟩,
 ⟨(some 21), none, false, .un .not (.t 20)⟩])
 (.cond (.t 21)
 (.seq
 (.reg false [2, 3] [⟨(some 2), none, false, .mov (.k (.d (.int .i64 0)))⟩,
 ⟨(some 3), none, false, .mov (.k (.d (.bool false)))⟩])
 .ret)
 .skip))
 (.seq
 (.reg false [0, 4, 5] [⟨(some 5), none, false, .mov (.k (.d (.int .i64 0)))⟩])
 (.seq
 (.seq
 (.reg false [0, 4, 5, 6] [⟨(some 6), none, false, .mov (.k (.d (.int .i64 0)))⟩])
 (.block 0
 (.loop
 (.seq
 (.seq
 (.reg false [0, 4, 5, 6, 25] [⟨(some 22), none, false, .mov (.t 6)⟩,
 ⟨(some 23), none, false, .mov (.t 4)⟩,
 ⟨(some 24), none, false, .len true (.t 23)⟩,
 ⟨(some 25), none, false, .bin .lss (.t 22) (.t 24)⟩])
 (.cond (.t 25)
 .skip
 (.exit 0)))
 (.seq
 (.block 1
 (.seq
 (.seq
 (.reg false [0, 4, 5, 6, 37] [⟨(some 28), none, false, .mov (.t 4)⟩,
 ⟨(some 29), none, false, .mov (.t 6)⟩,
 ⟨(some 30), none, false, .ix (.t 28) (.t 29)⟩,
 ⟨(some 31), none, false, .bin .lss (.t 30) (.k (.d (.int .u8 48)))⟩,
 ⟨(some 32), none, false, .mov (.t 31)⟩,
 ⟨(some 33), (some (32, false)), false, .mov (.t 4)⟩,
 ⟨(some 34), (some (32, false)), false, .mov (.t 6)⟩,
 ⟨(some 35), (some (32, false)), false, .ix (.t 33) (.t 34)⟩,
 ⟨(some 36), (some (32, false)), false, .bin .gtr (.t 35) (.k (.d (.int .u8 57)))⟩,
 ⟨(some 37), none, false, .pick (.t 32) (.k (.d (.bool true))) (.t 36)⟩])
 (.cond (.t 37)
 (.seq
 (.reg false [2, 3] [⟨(some 2), none, false, .mov (.k (.d (.int .i64 0)))⟩,
 ⟨(some 3), none, false, .mov (.k (.d (.bool false)))⟩])
 .ret)
 .skip))
 (.reg false [0, 4, 5, 6] [⟨(some 38), none, false, .mov (.t 5)⟩,
 ⟨(some 39), none, false, .bin .mul (.k (.d (.int .i64 10))) (.t 38)⟩,
 ⟨(some 40), none, false, .mov (.t 4)⟩,
 ⟨(some 41), none, false, .mov (.t 6)⟩,
 ⟨(some 42), none, false, .ix (.t 40) (.t 41)⟩,
 ⟨(some 43), none, false, .bin .sub (.t 42) (.k (.d (.int .u8 48)))⟩,
 ⟨(some 44), none, false, .conv .i64 (.t 43)⟩,
 ⟨(some 45), none, false, .bin .add (.t 39) (.t 44)⟩,
 ⟨(some 5), none, false, .mov (.t 45)⟩])))
 (.reg false [0, 4, 5, 6] [⟨(some 26), none, false, .mov (.t 6)⟩,
 ⟨(some 27), none, false, .bin .add (.t 26) (.k (.d (.int .i64 1)))⟩,
 ⟨(some 6), none, false, .mov (.t 27)⟩]))))))
 (.seq
 (.seq
 (.reg false [0, 5, 50] [⟨(some 46), none, false, .mov (.t 4)⟩,
 ⟨(some 47), none, false, .len true (.t 46)⟩,
 ⟨(some 48), none, false, .mov (.t 0)⟩,
 ⟨(some 49), none, false, .len true (.t 48)⟩,
 ⟨(some 50), none, false, .bin .lss (.t 47) (.t 49)⟩])
 (.cond (.t 50)
 (.reg false [0, 5] [⟨(some 51), none, false, .mov (.t 5)⟩,
 ⟨(some 52), none, false, .un .neg (.t 51)⟩,
 ⟨(some 5), none, false, .mov (.t 52)⟩])
 .skip))
 (.seq
 (.seq
 (.reg false [5, 56] [⟨(some 53), none, false, .mov (.t 5)⟩,
 ⟨(some 54), none, true, .call 48 [(.t 53)]⟩,
 ⟨(some 55), none, false, .mov (.t 0)⟩,
 ⟨(some 56), none, false, .bin .neq (.t 54) (.t 55)⟩])
 (.cond (.t 56)
 (.seq
 (.reg false [2, 3] [⟨(some 2), none, false, .mov (.k (.d (.int .i64 0)))⟩,
 ⟨(some 3), none, false, .mov (.k (.d (.bool false)))⟩])
 .ret)
 .skip))
 (.seq
 (.reg false [2, 3] [⟨(some 57), none, false, .mov (.t 5)⟩,
 ⟨(some 2), none, false, .mov (.t 57)⟩,
 ⟨(some 3), none, false, .mov (.k (.d (.bool true)))⟩])
 .ret)))))))))
theorem c27 : (Go.Proofs.Tryd.f27).body.bind (comp prog.P (1, (Go.Proofs.Tryd.f27).ntmps) lv27) = some m27 := by kernel_rfl
theorem r27 : resOK prog.P (Go.Proofs.Tryd.f27).results.toList = true := by kernel_rfl

/-- spec.l1Least -/
def lv28 : List (Nat × List Nat) := [(0, [0, 1]), (1, [0, 1, 7]), (2, [4]), (3, [4])]
def m28 : MC :=
  (.seq
 (.reg false [0, 1] [⟨(some 4), none, false, .mov (.k (.d (.int .i64 0)))⟩])
 (.seq
 (.seq
 (.reg false [0, 1, 7] [⟨(some 5), none, false, .mov (.t 0)⟩,
 ⟨(some 6), none, false, .mov (.t 1)⟩,
 ⟨(some 7), none, false, .bin .lss (.t 5) (.t 6)⟩])
 (.cond (.t 7)
 (.seq
 (.reg false [4] [⟨(some 8), none, false, .mov (.t 0)⟩,
 ⟨(some 4), none, false, .mov (.t 8)⟩])
 .ret)
 .skip))
 (.seq
 (.reg false [4] [⟨(some 9), none, false, .mov (.t 1)⟩,
 ⟨(some 4), none, false, .mov (.t 9)⟩])
 .ret)))
theorem c28 : (Go.Proofs.Tryd.f28).body.bind (comp prog.P (2, (Go.Proofs.Tryd.f28).ntmps) lv28) = some m28 := by kernel_rfl
theorem r28 : resOK prog.P (Go.Proofs.Tryd.f28).results.toList = true := by kernel_rfl

/-- spec.l26One -/
def lv29 : List (Nat × List Nat) := [(0, [1]), (1, [2])]
def m29 : MC :=
  (.seq
 (.reg false [1] [⟨(some 1), none, true, .box (.t 0)⟩,
 ⟨(some 2), none, false, .mov (.k (.d (.bool false)))⟩])
 (.seq
 (.reg false [2] [⟨(some 3), none, false, .fa 0 0 (.t 1)⟩,
 ⟨(some 4), none, false, .ld none (.t 3)⟩,
 ⟨(some 5), none, true, .call 59 [(.t 4), (.k (.d (.int .i64 1900))), (.k (.d (.int .i64 2200)))]⟩,
 ⟨(some 6), none, false, .mov (.t 5)⟩,
 ⟨(some 7), (some (6, true)), false, .fa 1 1 (.t 1)⟩,
 ⟨(some 8), (some (6, true)), false, .ld none (.t 7)⟩,
 ⟨(some 9), (some (6, true)), true, .call 60 [(.t 8)]⟩,
 ⟨(some 10), none, false, .pick (.t 6) (.t 9) (.k (.d (.bool false)))⟩,
 ⟨(some 11), none, false, .mov (.t 10)⟩,
 ⟨(some 12), (some (11, true)), false, .fa 2 2 (.t 1)⟩,
 ⟨(some 13), (some (11, true)), false, .ld none (.t 12)⟩,
 ⟨(some 14), (some (11, true)), true, .call 60 [(.t 13)]⟩,
 ⟨(some 15), none, false, .pick (.t 11) (.t 14) (.k (.d (.bool false)))⟩,
 ⟨(some 16), none, false, .mov (.t 15)⟩,
 ⟨(some 17), (some (16, true)), false, .fa 3 3 (.t 1)⟩,
 ⟨(some 18), (some (16, true)), false, .ld none (.t 17)⟩,
 ⟨(some 19), (some (16, true)), true, .call 60 [(.t 18)]⟩,
 ⟨(some 20), none, false, .pick (.t 16) (.t 19) (.k (.d (.bool false)))⟩,
 ⟨(some 21), none, false, .mov (.t 20)⟩,
 ⟨(some 22), (some (21, true)), false, .fa 4 4 (.t 1)⟩,
 ⟨(some 23), (some (21, true)), false, .ld none (.t 22)⟩,
 ⟨(some 24), (some (21, true)), true, .call 60 [(.t 23)]⟩,
 ⟨(some 25), none, false, .pick (.t 21) (.t 24) (.k (.d (.bool false)))⟩,
 ⟨(some 2), none, false, .mov (.t 25)⟩])
 .ret))
theorem c29 : (Go.Proofs.Tryd.f29).body.bind (comp prog.P (1, (Go.Proofs.Tryd.f29).ntmps) lv29) = some m29 := by kernel_rfl
theorem r29 : resOK prog.P (Go.Proofs.Tryd.f29).results.toList = true := by kernel_rfl

/-- spec.l26Line -/
def lv30 : List (Nat × List Nat) := [(0, [1]), (1, [1, 3]), (2, [1, 3, 19]), (3, [3]), (4, [2])]
def m30 : MC :=
  (.seq
 (.reg false [1] [⟨(some 1), none, true, .box (.t 0)⟩,
 ⟨(some 2), none, false, .mov (.k (.d (.str [])))⟩])
 (.seq
 (.reg true [1, 3] [⟨(some 4), none, false, .fa 0 0 (.t 1)⟩,
 ⟨(some 5), none, false, .ld none (.t 4)⟩,
 ⟨(some 6), none, false, .callP 48 [(.t 5)]⟩,
 ⟨(some 7), none, false, .bin .add (.t 6) (.k (.d (.str [58, 32, 43])))⟩,
 ⟨(some 8), none, false, .fa 1 1 (.t 1)⟩,
 ⟨(some 9), none, false, .ld none (.t 8)⟩,
 ⟨(some 10), none, false, .callP 48 [(.t 9)]⟩,
 ⟨(some 11), none, false, .bin .add (.t 7) (.t 10)⟩,
 ⟨(some 12), none, false, .bin .add (.t 11) (.k (.d (.str [32, 45])))⟩,
 ⟨(some 13), none, false, .ld (some 5) (.t 1)⟩,
 ⟨(some 14), none, false, .callP 61 [(.t 13)]⟩,
 ⟨(some 15), none, false, .callP 48 [(.t 14)]⟩,
 ⟨(some 16), none, false, .bin .add (.t 12) (.t 15)⟩,
 ⟨(some 3), none, false, .mov (.t 16)⟩])
 (.seq
 (.seq
 (.reg false [1, 3, 19] [⟨(some 17), none, false, .fa 3 3 (.t 1)⟩,
 ⟨(some 18), none, false, .ld none (.t 17)⟩,
 ⟨(some 19), none, false, .bin .gtr (.t 18) (.k (.d (.int .i64 0)))⟩])
 (.cond (.t 19)
 (.reg false [3] [⟨(some 20), none, false, .mov (.t 3)⟩,
 ⟨(some 21), none, false, .bin .add (.t 20) (.k (.d (.str [32, 40])))⟩,
 ⟨(some 22), none, false, .fa 3 3 (.t 1)⟩,
 ⟨(some 23), none, false, .ld none (.t 22)⟩,
 ⟨(some 24), none, true, .call 48 [(.t 23)]⟩,
 ⟨(some 25), none, false, .bin .add (.t 21) (.t 24)⟩,
 ⟨(some 26), none, false, .bin .add (.t 25) (.k (.d (.str [32, 100, 101, 115, 116, 114, 111, 121, 101, 100, 41])))⟩,
 ⟨(some 3), none, false, .mov (.t 26)⟩])
 .skip))
 (.seq
 (.reg false [2] [⟨(some 27), none, false, .mov (.t 3)⟩,
 ⟨(some 2), none, false, .mov (.t 27)⟩])
 .ret))))
theorem c30 : (Go.Proofs.Tryd.f30).body.bind (comp prog.P (1, (Go.Proofs.Tryd.f30).ntmps) lv30) = some m30 := by kernel_rfl
theorem r30 : resOK prog.P (Go.Proofs.Tryd.f30).results.toList = true := by kernel_rfl

/-- strings.CutSuffix -/
def lv32 : List (Nat × List Nat) := [(0, [0, 1]), (1, [4, 5])]
def m32 : MC :=
  (.seq
 (.reg false [0, 1] [⟨(some 4), none, false, .mov (.k (.d (.str [])))⟩,
 ⟨(some 5), none, false, .mov (.k (.d (.bool false)))⟩])
 (.seq
 (.reg false [4, 5] [⟨(some 6), none, false, .mov (.t 0)⟩,
 ⟨(some 7), none, false, .mov (.t 1)⟩,
 ⟨(some 8), none, true, .call 63 [(.t 6), (.t 7)]⟩,
 ⟨(some 9), none, false, .ext (.t 8) 0⟩,
 ⟨(some 10), none, false, .ext (.t 8) 1⟩,
 ⟨(some 4), none, false, .mov (.t 9)⟩,
 ⟨(some 5), none, false, .mov (.t 10)⟩])
 .ret))
theorem c32 : (Go.Proofs.Tryd.f32).body.bind (comp prog.P (2, (Go.Proofs.Tryd.f32).ntmps) lv32) = some m32 := by kernel_rfl
theorem r32 : resOK prog.P (Go.Proofs.Tryd.f32).results.toList = true := by kernel_rfl

/-- impl.digitsOf -/
def lv33 : List (Nat × List Nat) := [(0, [0]), (1, [0, 16]), (2, [2]), (3, [0, 3]), (4, [0, 3, 18, 19]), (5, [0, 3, 18, 19, 20]), (6, [0, 3, 4, 18, 19]), (7, [0, 3, 18, 19]), (8, [0, 3, 18, 19]), (9, [2])]
def m33 : MC :=
  (.seq
 (.reg false [0] [⟨(some 2), none, false, .mov (.k (.d (.int .i64 0)))⟩])
 (.seq
 (.seq
 (.reg false [0, 16] [⟨(some 5), none, false, .mov (.t 0)⟩,
 ⟨(some 6), none, false, .bin .eql (.t 5) (.k (.d (.str [])))⟩,
 ⟨(some 7), none, false, .mov (.t 6)⟩,
 ⟨(some 8), (some (7, false)), false, .mov (.t 0)⟩,
 ⟨(some 9), (some (7, false)), false, .len true (.t 8)⟩,
 ⟨(some 10), (some (7, false)), false, .bin .gtr (.t 9) (.k (.d (.int .i64 7)))⟩,
 ⟨(some 11), none, false, .pick (.t 7) (.k (.d (.bool true))) (.t 10)⟩,
 ⟨(some 12), none, false, .mov (.t 11)⟩,
 ⟨(some 13), (some (12, false)), false, .mov (.t 0)⟩,
 ⟨(some 14), (some (12, false)), true, .call 64 [(.t 13), (.k (.d (.str [48, 49, 50, 51, 52, 53, 54, 55, 56, 57])))]⟩,
 ⟨(some 15), (some (12, false)), false, .bin .neq (.t 14) (.k (.d (.str [])))⟩,
 ⟨(some 16), none, false, .pick (.t 12) (.k (.d (.bool true))) (.t 15)⟩])
 (.cond (.t 16)
 (.seq
 (.reg false [2] [⟨(some 2), none, false, .mov (.k (.d (.int .i64 (-1))))⟩])
 .ret)
 .skip))
 (.seq
 (.reg false [0, 3] [⟨(some 3), none, false, .mov (.k (.d (.int .i64 0)))⟩])
 (.seq
 (.seq
 (.reg false [0, 3, 18, 19] [⟨(some 17), none, false, .mov (.t 0)⟩,
 ⟨(some 18), none, false, .len true (.t 17)⟩,
 ⟨(some 19), none, false, .mov (.k (.d (.int .i64 0)))⟩])
 (.block 0
 (.loop
 (.seq
 (.reg false [0, 3, 18, 19, 20] [⟨(some 20), none, false, .bin .lss (.t 19) (.t 18)⟩])
 (.seq
 (.cond (.t 20)
 .skip
 (.exit 0))
 (.seq
 (.block 1
 (.seq
 (.reg false [0, 3, 4, 18, 19] [⟨(some 21), none, false, .mov (.t 19)⟩,
 ⟨(some 4), none, false, .mov (.t 21)⟩])
 (.reg false [0, 3, 18, 19] [⟨(some 22), none, false, .mov (.t 3)⟩,
 ⟨(some 23), none, false, .bin .mul (.t 22) (.k (.d (.int .i64 10)))⟩,
 ⟨(some 24), none, false, .mov (.t 0)⟩,
 ⟨(some 25), none, false, .mov (.t 4)⟩,
 ⟨(some 26), none, false, .ix (.t 24) (.t 25)⟩,
 ⟨(some 27), none, false, .bin .sub (.t 26) (.k (.d (.int .u8 48)))⟩,
 ⟨(some 28), none, false, .conv .i64 (.t 27)⟩,
 ⟨(some 29), none, false, .bin .add (.t 23) (.t 28)⟩,
 ⟨(some 3), none, false, .mov (.t 29)⟩])))
 (.reg false [0, 3, 18, 19] [⟨(some 30), none, false, .bin .add (.t 19) (.k (.d (.int .i64 1)))⟩,
 ⟨(some 19), none, false, .mov (.t 30)⟩])))))))
 (.seq
 (.reg false [2] [⟨(some 31), none, false, .mov (.t 3)⟩,
 ⟨(some 2), none, false, .mov (.t 31)⟩])
 .ret)))))
theorem c33 : (Go.Proofs.Tryd.f33).body.bind (comp prog.P (1, (Go.Proofs.Tryd.f33).ntmps) lv33) = some m33 := by kernel_rfl
theorem r33 : resOK prog.P (Go.Proofs.Tryd.f33).results.toList = true := by kernel_rfl

/-- impl.yearLine -/
def lv34 : List (Nat × List Nat) := [(0, [1]), (1, [1, 3]), (2, [1, 3, 19]), (3, [3]), (4, [2])]
def m34 : MC :=
  (.seq
 (.reg false [1] [⟨(some 1), none, true, .box (.t 0)⟩,
 ⟨(some 2), none, false, .mov (.k (.d (.str [])))⟩])
 (.seq
 (.reg true [1, 3] [⟨(some 4), none, false, .fa 0 0 (.t 1)⟩,
 ⟨(some 5), none, false, .ld none (.t 4)⟩,
 ⟨(some 6), none, false, .callP 47 [(.t 5)]⟩,
 ⟨(some 7), none, false, .bin .add (.t 6) (.k (.d (.str [58, 32, 43])))⟩,
 ⟨(some 8), none, false, .fa 1 1 (.t 1)⟩,
 ⟨(some 9), none, false, .ld none (.t 8)⟩,
 ⟨(some 10), none, false, .callP 47 [(.t 9)]⟩,
 ⟨(some 11), none, false, .bin .add (.t 7) (.t 10)⟩,
 ⟨(some 12), none, false, .bin .add (.t 11) (.k (.d (.str [32, 45])))⟩,
 ⟨(some 13), none, false, .ld (some 5) (.t 1)⟩,
 ⟨(some 14), none, false, .callP 35 [(.t 13)]⟩,
 ⟨(some 15), none, false, .callP 47 [(.t 14)]⟩,
 ⟨(some 16), none, false, .bin .add (.t 12) (.t 15)⟩,
 ⟨(some 3), none, false, .mov (.t 16)⟩])
 (.seq
 (.seq
 (.reg false [1, 3, 19] [⟨(some 17), none, false, .fa 3 3 (.t 1)⟩,
 ⟨(some 18), none, false, .ld none (.t 17)⟩,
 ⟨(some 19), none, false, .bin .gtr (.t 18) (.k (.d (.int .i64 0)))⟩])
 (.cond (.t 19)
 (.reg false [3] [⟨(some 20), none, false, .mov (.t 3)⟩,
 ⟨(some 21), none, false, .fa 3 3 (.t 1)⟩,
 ⟨(some 22), none, false, .ld none (.t 21)⟩,
 ⟨(some 23), none, true, .call 47 [(.t 22)]⟩,
 ⟨(some 24), none, false, .bin .add (.k (.d (.str [32, 40]))) (.t 23)⟩,
 ⟨(some 25), none, false, .bin .add (.t 24) (.k (.d (.str [32, 100, 101, 115, 116, 114, 111, 121, 101, 100, 41])))⟩,
 ⟨(some 26), none, false, .bin .add (.t 20) (.t 25)⟩,
 ⟨(some 3), none, false, .mov (.t 26)⟩])
 .skip))
 (.seq
 (.reg false [2] [⟨(some 27), none, false, .mov (.t 3)⟩,
 ⟨(some 2), none, false, .mov (.t 27)⟩])
 .ret))))
theorem c34 : (Go.Proofs.Tryd.f34).body.bind (comp prog.P (1, (Go.Proofs.Tryd.f34).ntmps) lv34) = some m34 := by kernel_rfl
theorem r34 : resOK prog.P (Go.Proofs.Tryd.f34).results.toList = true := by kernel_rfl

/-- impl.YearRow).gone -/
def lv35 : List (Nat × List Nat) := [(0, [1]), (1, [2])]
def m35 : MC :=
  (.seq
 (.reg false [1] [⟨(some 1), none, true, .box (.t 0)⟩,
 ⟨(some 2), none, false, .mov (.k (.d (.int .i64 0)))⟩])
 (.seq
 (.reg false [2] [⟨(some 3), none, false, .fa 2 2 (.t 1)⟩,
 ⟨(some 4), none, false, .ld none (.t 3)⟩,
 ⟨(some 5), none, false, .fa 3 3 (.t 1)⟩,
 ⟨(some 6), none, false, .ld none (.t 5)⟩,
 ⟨(some 7), none, false, .bin .add (.t 4) (.t 6)⟩,
 ⟨(some 8), none, false, .fa 4 4 (.t 1)⟩,
 ⟨(some 9), none, false, .ld none (.t 8)⟩,
 ⟨(some 10), none, false, .bin .add (.t 7) (.t 9)⟩,
 ⟨(some 2), none, false, .mov (.t 10)⟩])
 .ret))
theorem c35 : (Go.Proofs.Tryd.f35).body.bind (comp prog.P (1, (Go.Proofs.Tryd.f35).ntmps) lv35) = some m35 := by kernel_rfl
theorem r35 : resOK prog.P (Go.Proofs.Tryd.f35).results.toList = true := by kernel_rfl

/-- impl.within -/
def lv41 : List (Nat × List Nat) := [(0, [0, 1, 2]), (1, [6])]
def m41 : MC :=
  (.seq
 (.reg false [0, 1, 2] [⟨(some 6), none, false, .mov (.k (.d (.bool false)))⟩])
 (.seq
 (.reg false [6] [⟨(some 7), none, false, .mov (.t 1)⟩,
 ⟨(some 8), none, false, .mov (.t 0)⟩,
 ⟨(some 9), none, false, .bin .leq (.t 7) (.t 8)⟩,
 ⟨(some 10), none, false, .mov (.t 9)⟩,
 ⟨(some 11), (some (10, true)), false, .mov (.t 0)⟩,
 ⟨(some 12), (some (10, true)), false, .mov (.t 2)⟩,
 ⟨(some 13), (some (10, true)), false, .bin .leq (.t 11) (.t 12)⟩,
 ⟨(some 14), none, false, .pick (.t 10) (.t 13) (.k (.d (.bool false)))⟩,
 ⟨(some 6), none, false, .mov (.t 14)⟩])
 .ret))
theorem c41 : (Go.Proofs.Tryd.f41).body.bind (comp prog.P (3, (Go.Proofs.Tryd.f41).ntmps) lv41) = some m41 := by kernel_rfl
theorem r41 : resOK prog.P (Go.Proofs.Tryd.f41).results.toList = true := by kernel_rfl

/-- impl.isCount -/
def lv42 : List (Nat × List Nat) := [(0, [0]), (1, [2])]
def m42 : MC :=
  (.seq
 (.reg false [0] [⟨(some 2), none, false, .mov (.k (.d (.bool false)))⟩])
 (.seq
 (.reg false [2] [⟨(some 3), none, false, .mov (.t 0)⟩,
 ⟨(some 4), none, true, .call 41 [(.t 3), (.k (.d (.int .i64 0))), (.k (.d (.int .i64 9999)))]⟩,
 ⟨(some 2), none, false, .mov (.t 4)⟩])
 .ret))
theorem c42 : (Go.Proofs.Tryd.f42).body.bind (comp prog.P (1, (Go.Proofs.Tryd.f42).ntmps) lv42) = some m42 := by kernel_rfl
theorem r42 : resOK prog.P (Go.Proofs.Tryd.f42).results.toList = true := by kernel_rfl

/-- impl.decimal -/
def lv47 : List (Nat × List Nat) := [(0, [0]), (1, [2])]
def m47 : MC :=
  (.seq
 (.reg false [0] [⟨(some 2), none, false, .mov (.k (.d (.str [])))⟩])
 (.seq
 (.reg false [2] [⟨(some 3), none, false, .mov (.t 0)⟩,
 ⟨(some 4), none, true, .call 67 [(.t 3)]⟩,
 ⟨(some 2), none, false, .mov (.t 4)⟩])
 .ret))
theorem c47 : (Go.Proofs.Tryd.f47).body.bind (comp prog.P (1, (Go.Proofs.Tryd.f47).ntmps) lv47) = some m47 := by kernel_rfl
theorem r47 : resOK prog.P (Go.Proofs.Tryd.f47).results.toList = true := by kernel_rfl

/-- spec.l1Num -/
def lv48 : List (Nat × List Nat) := [(0, [0]), (1, [0, 4]), (2, [2]), (3, [0, 10]), (4, [2]), (5, [2])]
def m48 : MC :=
  (.seq
 (.reg false [0] [⟨(some 2), none, false, .mov (.k (.d (.str [])))⟩])
 (.seq
 (.seq
 (.reg false [0, 4] [⟨(some 3), none, false, .mov (.t 0)⟩,
 ⟨(some 4), none, false, .bin .lss (.t 3) (.k (.d (.int .i64 0)))⟩])
 (.cond (.t 4)
 (.seq
 (.reg false [2] [⟨(some 5), none, false, .mov (.t 0)⟩,
 ⟨(some 6), none, false, .un .neg (.t 5)⟩,
 ⟨(some 7), none, true, .call 48 [(.t 6)]⟩,
 ⟨(some 8), none, false, .bin .add (.k (.d (.str [45]))) (.t 7)⟩,
 ⟨(some 2), none, false, .mov (.t 8)⟩])
 .ret)
 .skip))
 (.seq
 (.seq
 (.reg false [0, 10] [⟨(some 9), none, false, .mov (.t 0)⟩,
 ⟨(some 10), none, false, .bin .lss (.t 9) (.k (.d (.int .i64 10)))⟩])
 (.cond (.t 10)
 (.seq
 (.reg false [2] [⟨(some 11), none, false, .mov (.t 0)⟩,
 ⟨(some 12), none, false, .mov (.t 0)⟩,
 ⟨(some 13), none, false, .bin .add (.t 12) (.k (.d (.int .i64 1)))⟩,
 ⟨(some 14), none, false, .sls (.k (.d (.str [48, 49, 50, 51, 52, 53, 54, 55, 56, 57]))) (some (.t 11)) (some (.t 13))⟩,
 ⟨(some 2), none, false, .mov (.t 14)⟩])
 .ret)
 .skip))
 (.seq
 (.reg true [2] [⟨(some 15), none, false, .mov (.t 0)⟩,
 ⟨(some 16), none, false, .bin .quo (.t 15) (.k (.d (.int .i64 10)))⟩,
 ⟨(some 17), none, false, .callP 48 [(.t 16)]⟩,
 ⟨(some 18), none, false, .mov (.t 0)⟩,
 ⟨(some 19), none, false, .bin .rem (.t 18) (.k (.d (.int .i64 10)))⟩,
 ⟨(some 20), none, false, .mov (.t 0)⟩,
 ⟨(some 21), none, false, .bin .rem (.t 20) (.k (.d (.int .i64 10)))⟩,
 ⟨(some 22), none, false, .bin .add (.t 21) (.k (.d (.int .i64 1)))⟩,
 ⟨(some 23), none, false, .sls (.k (.d (.str [48, 49, 50, 51, 52, 53, 54, 55, 56, 57]))) (some (.t 19)) (some (.t 22))⟩,
 ⟨(some 24), none, false, .bin .add (.t 17) (.t 23)⟩,
 ⟨(some 2), none, false, .mov (.t 24)⟩])
 .ret))))
theorem c48 : (Go.Proofs.Tryd.f48).body.bind (comp prog.P (1, (Go.Proofs.Tryd.f48).ntmps) lv48) = some m48 := by kernel_rfl
theorem r48 : resOK prog.P (Go.Proofs.Tryd.f48).results.toList = true := by kernel_rfl

/-- spec.l1In -/
def lv59 : List (Nat × List Nat) := [(0, [0, 1, 2]), (1, [6])]
def m59 : MC :=
  (.seq
 (.reg false [0, 1, 2] [⟨(some 6), none, false, .mov (.k (.d (.bool false)))⟩])
 (.seq
 (.reg false [6] [⟨(some 7), none, false, .mov (.t 0)⟩,
 ⟨(some 8), none, false, .mov (.t 1)⟩,
 ⟨(some 9), none, false, .bin .geq (.t 7) (.t 8)⟩,
 ⟨(some 10), none, false, .mov (.t 9)⟩,
 ⟨(some 11), (some (10, true)), false, .mov (.t 0)⟩,
 ⟨(some 12), (some (10, true)), false, .mov (.t 2)⟩,
 ⟨(some 13), (some (10, true)), false, .bin .leq (.t 11) (.t 12)⟩,
 ⟨(some 14), none, false, .pick (.t 10) (.t 13) (.k (.d (.bool false)))⟩,
 ⟨(some 6), none, false, .mov (.t 14)⟩])
 .ret))
theorem c59 : (Go.Proofs.Tryd.f59).body.bind (comp prog.P (3, (Go.Proofs.Tryd.f59).ntmps) lv59) = some m59 := by kernel_rfl
theorem r59 : resOK prog.P (Go.Proofs.Tryd.f59).results.toList = true := by kernel_rfl

/-- spec.l26Count -/
def lv60 : List (Nat × List Nat) := [(0, [0]), (1, [2])]
def m60 : MC :=
  (.seq
 (.reg false [0] [⟨(some 2), none, false, .mov (.k (.d (.bool false)))⟩])
 (.seq
 (.reg false [2] [⟨(some 3), none, false, .mov (.t 0)⟩,
 ⟨(some 4), none, true, .call 59 [(.t 3), (.k (.d (.int .i64 0))), (.k (.d (.int .i64 9999)))]⟩,
 ⟨(some 2), none, false, .mov (.t 4)⟩])
 .ret))
theorem c60 : (Go.Proofs.Tryd.f60).body.bind (comp prog.P (1, (Go.Proofs.Tryd.f60).ntmps) lv60) = some m60 := by kernel_rfl
theorem r60 : resOK prog.P (Go.Proofs.Tryd.f60).results.toList = true := by kernel_rfl

/-- spec.l26Gone -/
def lv61 : List (Nat × List Nat) := [(0, [1]), (1, [2])]
def m61 : MC :=
  (.seq
 (.reg false [1] [⟨(some 1), none, true, .box (.t 0)⟩,
 ⟨(some 2), none, false, .mov (.k (.d (.int .i64 0)))⟩])
 (.seq
 (.reg false [2] [⟨(some 3), none, false, .fa 2 2 (.t 1)⟩,
 ⟨(some 4), none, false, .ld none (.t 3)⟩,
 ⟨(some 5), none, false, .fa 3 3 (.t 1)⟩,
 ⟨(some 6), none, false, .ld none (.t 5)⟩,
 ⟨(some 7), none, false, .bin .add (.t 4) (.t 6)⟩,
 ⟨(some 8), none, false, .fa 4 4 (.t 1)⟩,
 ⟨(some 9), none, false, .ld none (.t 8)⟩,
 ⟨(some 10), none, false, .bin .add (.t 7) (.t 9)⟩,
 ⟨(some 2), none, false, .mov (.t 10)⟩])
 .ret))
theorem c61 : (Go.Proofs.Tryd.f61).body.bind (comp prog.P (1, (Go.Proofs.Tryd.f61).ntmps) lv61) = some m61 := by kernel_rfl
theorem r61 : resOK prog.P (Go.Proofs.Tryd.f61).results.toList = true := by kernel_rfl

/-- stringslite.CutSuffix -/
def lv63 : List (Nat × List Nat) := [(0, [0, 1]), (1, [0, 1, 9]), (2, [4, 5]), (3, [4, 5])]
def m63 : MC :=
  (.seq
 (.reg false [0, 1] [⟨(some 4), none, false, .mov (.k (.d (.str [])))⟩,
 ⟨(some 5), none, false, .mov (.k (.d (.bool false)))⟩])
 (.seq
 (.seq
 (.reg false [0, 1, 9] [⟨(some 6), none, false, .mov (.t 0)⟩,
 ⟨(some 7), none, false, .mov (.t 1)⟩,
 ⟨(some 8), none, true, .call 82 [(.t 6), (.t 7)]⟩,
 ⟨(some 9), none, false, .un .not (.t 8)⟩])
 (.cond (.t 9)
 (.seq
 (.reg false [4, 5] [⟨(some 10), none, false, .mov (.t 0)⟩,
 ⟨(some 4), none, false, .mov (.t 10)⟩,
 ⟨(some 5), none, false, .mov (.k (.d (.bool false)))⟩])
 .ret)
 .skip))
 (.seq
 (.reg false [4, 5] [⟨(some 11), none, false, .mov (.t 0)⟩,
 ⟨(some 12), none, false, .mov (.t 0)⟩,
 ⟨(some 13), none, false, .len true (.t 12)⟩,
 ⟨(some 14), none, false, .mov (.t 1)⟩,
 ⟨(some 15), none, false, .len true (.t 14)⟩,
 ⟨(some 16), none, false, .bin .sub (.t 13) (.t 15)⟩,
 ⟨(some 17), none, false, .sls (.t 11) none (some (.t 16))⟩,
 ⟨(some 4), none, false, .mov (.t 17)⟩,
 ⟨(some 5), none, false, .mov (.k (.d (.bool true)))⟩])
 .ret)))
theorem c63 : (Go.Proofs.Tryd.f63).body.bind (comp prog.P (2, (Go.Proofs.Tryd.f63).ntmps) lv63) = some m63 := by kernel_rfl
theorem r63 : resOK prog.P (Go.Proofs.Tryd.f63).results.toList = true := by kernel_rfl

/-- strings.Trim -/
def lv64 : List (Nat × List Nat) := [(0, [0, 1]), (1, [0, 1, 12]), (2, [4]), (3, [0, 1, 21]), (4, [4]), (5, [0, 1, 5, 6]), (6, [0, 1, 5, 34]), (7, [4]), (8, [4])]
def m64 : MC :=
  (.seq
 (.reg false [0, 1] [⟨(some 4), none, false, .mov (.k (.d (.str [])))⟩])
 (.seq
 (.seq
 (.reg false [0, 1, 12] [⟨(some 7), none, false, .mov (.t 0)⟩,
 ⟨(some 8), none, false, .bin .eql (.t 7) (.k (.d (.str [])))⟩,
 ⟨(some 9), none, false, .mov (.t 8)⟩,
 ⟨(some 10), (some (9, false)), false, .mov (.t 1)⟩,
 ⟨(some 11), (some (9, false)), false, .bin .eql (.t 10) (.k (.d (.str [])))⟩,
 ⟨(some 12), none, false, .pick (.t 9) (.k (.d (.bool true))) (.t 11)⟩])
 (.cond (.t 12)
 (.seq
 (.reg false [4] [⟨(some 13), none, false, .mov (.t 0)⟩,
 ⟨(some 4), none, false, .mov (.t 13)⟩])
 .ret)
 .skip))
 (.seq
 (.seq
 (.reg false [0, 1, 21] [⟨(some 14), none, false, .mov (.t 1)⟩,
 ⟨(some 15), none, false, .len true (.t 14)⟩,
 ⟨(some 16), none, false, .bin .eql (.t 15) (.k (.d (.int .i64 1)))⟩,
 ⟨(some 17), none, false, .mov (.t 16)⟩,
 ⟨(some 18), (some (17, true)), false, .mov (.t 1)⟩,
 ⟨(some 19), (some (17, true)), false, .ix (.t 18) (.k (.d (.int .i64 0)))⟩,
 ⟨(some 20), (some (17, true)), false, .bin .lss (.t 19) (.k (.d (.int .u8 128)))⟩,
 ⟨(some 21), none, false, .pick (.t 17) (.t 20) (.k (.d (.bool false)))⟩])
 (.cond (.t 21)
 (.seq
 (.reg true [4] [⟨(some 22), none, false, .mov (.t 0)⟩,
 ⟨(some 23), none, false, .mov (.t 1)⟩,
 ⟨(some 24), none, false, .ix (.t 23) (.k (.d (.int .i64 0)))⟩,
 ⟨(some 25), none, false, .callP 84 [(.t 22), (.t 24)]⟩,
 ⟨(some 26), none, false, .mov (.t 1)⟩,
 ⟨(some 27), none, false, .ix (.t 26) (.k (.d (.int .i64 0)))⟩,
 ⟨(some 28), none, false, .callP 83 [(.t 25), (.t 27)]⟩,
 ⟨(some 4), none, false, .mov (.t 28)⟩])
 .ret)
 .skip))
 (.seq
 (.seq
 (.reg false [0, 1, 5, 6] [⟨(some 30), none, false, .mov (.t 1)⟩,
 ⟨(some 31), none, true, .call 85 [(.t 30)]⟩,
 ⟨(some 29), none, false, .mov (.t 31)⟩,
 ⟨(some 32), none, false, .ext (.t 29) 0⟩,
 ⟨(some 33), none, false, .ext (.t 29) 1⟩,
 ⟨(some 5), none, true, .alloc (.st (ofL (List.replicate 256 (.bool false))))⟩,
 ⟨none, none, true, .st 256 (.t 5) (.t 32)⟩,
 ⟨(some 6), none, false, .mov (.t 33)⟩])
 (.seq
 (.reg false [0, 1, 5, 34] [⟨(some 34), none, false, .mov (.t 6)⟩])
 (.cond (.t 34)
 (.seq
 (.reg false [4] [⟨(some 35), none, false, .mov (.t 0)⟩,
 ⟨(some 36), none, true, .call 87 [(.t 35), (.t 5)]⟩,
 ⟨(some 37), none, true, .call 86 [(.t 36), (.t 5)]⟩,
 ⟨(some 4), none, false, .mov (.t 37)⟩])
 .ret)
 .skip)))
 (.seq
 (.reg false [4] [⟨(some 38), none, false, .mov (.t 0)⟩,
 ⟨(some 39), none, false, .mov (.t 1)⟩,
 ⟨(some 40), none, true, .call 89 [(.t 38), (.t 39)]⟩,
 ⟨(some 41), none, false, .mov (.t 1)⟩,
 ⟨(some 42), none, true, .call 88 [(.t 40), (.t 41)]⟩,
 ⟨(some 4), none, false, .mov (.t 42)⟩])
 .ret)))))
theorem c64 : (Go.Proofs.Tryd.f64).body.bind (comp prog.P (2, (Go.Proofs.Tryd.f64).ntmps) lv64) = some m64 := by kernel_rfl
theorem r64 : resOK prog.P (Go.Proofs.Tryd.f64).results.toList = true := by kernel_rfl

/-- stringslite.HasSuffix -/
def lv82 : List (Nat × List Nat) := [(0, [0, 1]), (1, [4])]
def m82 : MC :=
  (.seq
 (.reg false [0, 1] [⟨(some 4), none, false, .mov (.k (.d (.bool false)))⟩])
 (.seq
 (.reg false [4] [⟨(some 5), none, false, .mov (.t 0)⟩,
 ⟨(some 6), none, false, .len true (.t 5)⟩,
 ⟨(some 7), none, false, .mov (.t 1)⟩,
 ⟨(some 8), none, false, .len true (.t 7)⟩,
 ⟨(some 9), none, false, .bin .geq (.t 6) (.t 8)⟩,
 ⟨(some 10), none, false, .mov (.t 9)⟩,
 ⟨(some 11), (some (10, true)), false, .mov (.t 0)⟩,
 ⟨(some 12), (some (10, true)), false, .mov (.t 0)⟩,
 ⟨(some 13), (some (10, true)), false, .len true (.t 12)⟩,
 ⟨(some 14), (some (10, true)), false, .mov (.t 1)⟩,
 ⟨(some 15), (some (10, true)), false, .len true (.t 14)⟩,
 ⟨(some 16), (some (10, true)), false, .bin .sub (.t 13) (.t 15)⟩,
 ⟨(some 17), (some (10, true)), false, .sls (.t 11) (some (.t 16)) none⟩,
 ⟨(some 18), (some (10, true)), false, .mov (.t 1)⟩,
 ⟨(some 19), (some (10, true)), false, .bin .eql (.t 17) (.t 18)⟩,
 ⟨(some 20), none, false, .pick (.t 10) (.t 19) (.k (.d (.bool false)))⟩,
 ⟨(some 4), none, false, .mov (.t 20)⟩])
 .ret))
theorem c82 : (Go.Proofs.Tryd.f82).body.bind (comp prog.P (2, (Go.Proofs.Tryd.f82).ntmps) lv82) = some m82 := by kernel_rfl
theorem r82 : resOK prog.P (Go.Proofs.Tryd.f82).results.toList = true := by kernel_rfl

/-- strings.trimLeftASCII -/
def lv86 : List (Nat × List Nat) := [(0, [0, 1]), (1, [0, 1, 7]), (2, [0, 1, 12]), (3, [0, 1]), (4, [4])]
def m86 : MC :=
  (.seq
 (.reg false [0, 1] [⟨(some 4), none, false, .mov (.k (.d (.str [])))⟩])
 (.seq
 (.block 0
 (.loop
 (.seq
 (.seq
 (.reg false [0, 1, 7] [⟨(some 5), none, false, .mov (.t 0)⟩,
 ⟨(some 6), none, false, .len true (.t 5)⟩,
 ⟨(some 7), none, false, .bin .gtr (.t 6) (.k (.d (.int .i64 0)))⟩])
 (.cond (.t 7)
 .skip
 (.exit 0)))
 (.block 1
 (.seq
 (.seq
 (.reg false [0, 1, 12] [⟨(some 8), none, false, .mov (.t 1)⟩,
 ⟨(some 9), none, false, .mov (.t 0)⟩,
 ⟨(some 10), none, false, .ix (.t 9) (.k (.d (.int .i64 0)))⟩,
 ⟨(some 11), none, true, .call 115 [(.t 8), (.t 10)]⟩,
 ⟨(some 12), none, false, .un .not (.t 11)⟩])
 (.cond (.t 12)
 (.exit 0)
 .skip))
 (.reg false [0, 1] [⟨(some 13), none, false, .mov (.t 0)⟩,
 ⟨(some 14), none, false, .sls (.t 13) (some (.k (.d (.int .i64 1)))) none⟩,
 ⟨(some 0), none, false, .mov (.t 14)⟩]))))))
 (.seq
 (.reg false [4] [⟨(some 15), none, false, .mov (.t 0)⟩,
 ⟨(some 4), none, false, .mov (.t 15)⟩])
 .ret)))
theorem c86 : (Go.Proofs.Tryd.f86).body.bind (comp prog.P (0, (Go.Proofs.Tryd.f86).ntmps) lv86) = some m86 := by kernel_rfl
theorem r86 : resOK prog.P (Go.Proofs.Tryd.f86).results.toList = true := by kernel_rfl

/-- strings.trimRightASCII -/
def lv87 : List (Nat × List Nat) := [(0, [0, 1]), (1, [0, 1, 7]), (2, [0, 1, 15]), (3, [0, 1]), (4, [4])]
def m87 : MC :=
  (.seq
 (.reg false [0, 1] [⟨(some 4), none, false, .mov (.k (.d (.str [])))⟩])
 (.seq
 (.block 0
 (.loop
 (.seq
 (.seq
 (.reg false [0, 1, 7] [⟨(some 5), none, false, .mov (.t 0)⟩,
 ⟨(some 6), none, false, .len true (.t 5)⟩,
 ⟨(some 7), none, false, .bin .gtr (.t 6) (.k (.d (.int .i64 0)))⟩])
 (.cond (.t 7)
 .skip
 (.exit 0)))
 (.block 1
 (.seq
 (.seq
 (.reg false [0, 1, 15] [⟨(some 8), none, false, .mov (.t 1)⟩,
 ⟨(some 9), none, false, .mov (.t 0)⟩,
 ⟨(some 10), none, false, .mov (.t 0)⟩,
 ⟨(some 11), none, false, .len true (.t 10)⟩,
 ⟨(some 12), none, false, .bin .sub (.t 11) (.k (.d (.int .i64 1)))⟩,
 ⟨(some 13), none, false, .ix (.t 9) (.t 12)⟩,
 ⟨(some 14), none, true, .call 115 [(.t 8), (.t 13)]⟩,
 ⟨(some 15), none, false, .un .not (.t 14)⟩])
 (.cond (.t 15)
 (.exit 0)
 .skip))
 (.reg false [0, 1] [⟨(some 16), none, false, .mov (.t 0)⟩,
 ⟨(some 17), none, false, .mov (.t 0)⟩,
 ⟨(some 18), none, false, .len true (.t 17)⟩,
 ⟨(some 19), none, false, .bin .sub (.t 18) (.k (.d (.int .i64 1)))⟩,
 ⟨(some 20), none, false, .sls (.t 16) none (some (.t 19))⟩,
 ⟨(some 0), none, false, .mov (.t 20)⟩]))))))
 (.seq
 (.reg false [4] [⟨(some 21), none, false, .mov (.t 0)⟩,
 ⟨(some 4), none, false, .mov (.t 21)⟩])
 .ret)))
theorem c87 : (Go.Proofs.Tryd.f87).body.bind (comp prog.P (0, (Go.Proofs.Tryd.f87).ntmps) lv87) = some m87 := by kernel_rfl
theorem r87 : resOK prog.P (Go.Proofs.Tryd.f87).results.toList = true := by kernel_rfl

/-- (*strings.asciiSet).contains -/
def lv115 : List (Nat × List Nat) := [(0, [0, 1]), (1, [0, 4])]
def m115 : MC :=
  (.seq
 (.reg false [0, 1] [⟨(some 4), none, false, .mov (.k (.d (.bool false)))⟩])
 (.seq
 (.reg false [0, 4] [⟨(some 5), none, false, .mov (.t 0)⟩,
 ⟨(some 6), none, false, .mov (.t 1)⟩,
 ⟨(some 7), none, false, .nck (.t 5)⟩,
 ⟨(some 8), none, false, .iar 256 1 (.t 7) (.t 6)⟩,
 ⟨(some 9), none, false, .ld none (.t 8)⟩,
 ⟨(some 4), none, false, .mov (.t 9)⟩])
 .ret))
theorem c115 : (Go.Proofs.Tryd.f115).body.bind (comp prog.P (2, (Go.Proofs.Tryd.f115).ntmps) lv115) = some m115 := by kernel_rfl
theorem r115 : resOK prog.P (Go.Proofs.Tryd.f115).results.toList = true := by kernel_rfl

end Go.Pe.Tryd
