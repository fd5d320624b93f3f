/-
The compact code of the functions that the law reaches, printed by gen.py, each with the proof that the machine's code is compiled to it.
-/
import Derived.Test.YtmklnnagndckpaaDoorPeC
import Derived.Lib.ItoaNum
import Derived.Lib.LaidTab
import Derived.Test.YtmklnnagndckpaaDoorProg
import Derived.KernelRfl
set_option maxRecDepth 100000
namespace Go.Pe.Tryd
open Go.Pe

/-- of the start-up memory it is asked that the library's table of powers of ten stands, that a number of the library's is there. -/
theorem tab_stab {P : Program} {n : String} {k : IntKind} {zs : List Int} {g : Nat} (hg : P.globalNamed n = some g) (w w' : World) (_ : w.heap.size ≤ w'.heap.size) (hk : ∀ b, b < w.heap.size → w'.heap[b]? = w.heap[b]?) (h : Go.Lib.TabIs P w n k zs) : Go.Lib.TabIs P w' n k zs := by
  unfold Go.Lib.TabIs World.var? at h ⊢
  rw [hg] at h ⊢
  simp only [Option.bind_some] at h ⊢
  by_cases hb : g < w.heap.size
  · rw [hk g hb]; exact h
  · rw [Array.getElem?_eq_none (by omega)] at h
    simp at h
theorem cell_stab (g : Nat) (w w' : World) (hk : ∀ b, b < w.heap.size → w'.heap[b]? = w.heap[b]?) (h : ∃ m, w.cell? ⟨g, 0, none⟩ = some (.int .i64 m)) : ∃ m, w'.cell? ⟨g, 0, none⟩ = some (.int .i64 m) := by
  obtain ⟨m, h⟩ := h
  by_cases hb : g < w.heap.size
  · refine ⟨m, ?_⟩
    unfold World.cell? at h ⊢
    rw [hk g hb]; exact h
  · have hn : w.heap[g]? = none := Array.getElem?_eq_none (by omega)
    simp [World.cell?, hn] at h
noncomputable def prog : PG := ⟨Go.Proofs.Tryd.prog, fun w => (∃ m, w.cell? ⟨3, 0, none⟩ = some (.int .i64 m)), fun w w' hs hk h => cell_stab 3 w w' hk h⟩
theorem maxOf {w : World} (h : prog.F w) : ∃ m, w.cell? ⟨3, 0, none⟩ = some (.int .i64 m) := h

theorem sz30 : sizeOfT prog.P 30 = some 5 := by kernel_rfl

theorem sz54 : sizeOfT prog.P 54 = some 4 := by kernel_rfl

/-- laws.FnExactBlockedCases -/
def lv5 : List (Nat × List Nat) := [(0, [1]), (1, [1, 3]), (2, [1, 3]), (3, [1, 18]), (4, [2]), (5, [1, 4, 5]), (6, [1, 4, 5, 6]), (7, [1, 4, 5, 6, 7, 8]), (8, [1, 4, 5, 6, 7, 8, 40]), (9, [2]), (10, [1, 4, 5, 6, 7, 8, 45]), (11, [2]), (12, [1, 4, 5, 6, 7, 8, 9]), (13, [1, 4, 5, 7, 8, 9]), (14, [1, 4, 5, 7, 61]), (15, [2]), (16, [1, 4, 5, 7, 10]), (17, [1, 4, 5, 7, 10]), (18, [1, 4, 5, 7, 10, 11]), (19, [1, 4, 5, 7, 10, 11]), (20, [1, 4, 5, 7, 10, 11, 69]), (21, [2]), (22, [1, 4, 5, 7, 10, 72]), (23, [2]), (24, [4, 5, 7, 10, 12, 13]), (25, [7, 10, 87]), (26, [2]), (27, [7, 10, 11]), (28, [10, 11]), (29, [10, 11, 92]), (30, [2]), (31, [95]), (32, [2]), (33, [2])]
def m5 : MC :=
  (.seq
 (.reg false [1] [⟨(some 1), none, true, .box (.t 0)⟩,
 ⟨(some 2), none, false, .mov (.k (.d (.bool false)))⟩])
 (.seq
 (.reg false [1, 3] [⟨(some 3), none, false, .mov (.k (.d (.int .i64 1048576)))⟩])
 (.seq
 (.reg false [1, 3] [⟨(some 14), none, false, .ldv 5 (.t 1)⟩,
 ⟨(some 15), none, false, .mov (.t 3)⟩,
 ⟨(some 16), none, true, .call 9 [(.t 14), (.t 15)]⟩,
 ⟨(some 3), none, false, .mov (.t 16)⟩])
 (.seq
 (.seq
 (.reg false [1, 18] [⟨(some 17), none, false, .mov (.t 3)⟩,
 ⟨(some 18), none, false, .bin .lss (.t 17) (.k (.d (.int .i64 0)))⟩])
 (.cond (.t 18)
 (.seq
 (.reg false [2] [⟨(some 2), none, false, .mov (.k (.d (.bool true)))⟩])
 .ret)
 .skip))
 (.seq
 (.reg false [1, 4, 5] [⟨(some 20), none, false, .ldv 5 (.t 1)⟩,
 ⟨(some 21), none, true, .call 11 [(.t 20)]⟩,
 ⟨(some 22), none, true, .call 20 [(.t 21)]⟩,
 ⟨(some 19), none, false, .mov (.t 22)⟩,
 ⟨(some 23), none, false, .ext (.t 19) 0⟩,
 ⟨(some 24), none, false, .ext (.t 19) 1⟩,
 ⟨(some 4), none, false, .mov (.t 23)⟩,
 ⟨(some 5), none, false, .mov (.t 24)⟩])
 (.seq
 (.reg false [1, 4, 5, 6] [⟨(some 25), none, false, .ldv 5 (.t 1)⟩,
 ⟨(some 26), none, true, .call 11 [(.t 25)]⟩,
 ⟨(some 6), none, true, .alloc (.st (.cons (.int .i64 0) (.cons (.sl true 4 .nil) (.cons (.int .i64 0) (.cons (.int .i64 0) (.cons (.sl true 1 .nil) .nil))))))⟩,
 ⟨none, none, true, .st 5 (.t 6) (.t 26)⟩])
 (.seq
 (.reg false [1, 4, 5, 6, 7, 8] [⟨(some 28), none, false, .ldv 5 (.t 6)⟩,
 ⟨(some 29), none, true, .call 21 [(.t 28)]⟩,
 ⟨(some 27), none, false, .mov (.t 29)⟩,
 ⟨(some 30), none, false, .ext (.t 27) 0⟩,
 ⟨(some 31), none, false, .ext (.t 27) 1⟩,
 ⟨(some 7), none, false, .mov (.t 30)⟩,
 ⟨(some 8), none, false, .mov (.t 31)⟩])
 (.seq
 (.seq
 (.reg false [1, 4, 5, 6, 7, 8, 40] [⟨(some 32), none, false, .mov (.t 7)⟩,
 ⟨(some 33), none, false, .mov (.t 4)⟩,
 ⟨(some 34), none, true, .call 16 [(.t 32), (.t 33)]⟩,
 ⟨(some 35), none, false, .un .not (.t 34)⟩,
 ⟨(some 36), none, false, .mov (.t 35)⟩,
 ⟨(some 37), (some (36, false)), false, .mov (.t 8)⟩,
 ⟨(some 38), (some (36, false)), false, .mov (.t 5)⟩,
 ⟨(some 39), (some (36, false)), false, .bb .neq (.t 37) (.t 38)⟩,
 ⟨(some 40), none, false, .pick (.t 36) (.k (.d (.bool true))) (.t 39)⟩])
 (.cond (.t 40)
 (.seq
 (.reg false [2] [⟨(some 2), none, false, .mov (.k (.d (.bool false)))⟩])
 .ret)
 .skip))
 (.seq
 (.seq
 (.reg true [1, 4, 5, 6, 7, 8, 45] [⟨(some 41), none, false, .ldv 5 (.t 6)⟩,
 ⟨(some 42), none, false, .ldv 5 (.t 1)⟩,
 ⟨(some 43), none, false, .callP 11 [(.t 42)]⟩,
 ⟨(some 44), none, false, .callP 13 [(.t 41), (.t 43)]⟩,
 ⟨(some 45), none, false, .un .not (.t 44)⟩])
 (.cond (.t 45)
 (.seq
 (.reg false [2] [⟨(some 2), none, false, .mov (.k (.d (.bool false)))⟩])
 .ret)
 .skip))
 (.seq
 (.reg false [1, 4, 5, 6, 7, 8, 9] [⟨(some 9), none, false, .mov (.k (.d (.int .i64 1)))⟩])
 (.seq
 (.reg false [1, 4, 5, 7, 8, 9] [⟨(some 46), none, false, .ldv 5 (.t 6)⟩,
 ⟨(some 47), none, false, .mov (.t 9)⟩,
 ⟨(some 48), none, true, .call 17 [(.t 46), (.t 47)]⟩,
 ⟨(some 9), none, false, .mov (.t 48)⟩])
 (.seq
 (.seq
 (.reg false [1, 4, 5, 7, 61] [⟨(some 49), none, false, .mov (.t 9)⟩,
 ⟨(some 50), none, false, .bin .lss (.t 49) (.k (.d (.int .i64 0)))⟩,
 ⟨(some 51), none, false, .mov (.t 50)⟩,
 ⟨(some 52), (some (51, false)), false, .mov (.t 7)⟩,
 ⟨(some 53), (some (51, false)), false, .mov (.t 4)⟩,
 ⟨(some 54), (some (51, false)), true, .call 16 [(.t 52), (.t 53)]⟩,
 ⟨(some 55), (some (51, false)), false, .un .not (.t 54)⟩,
 ⟨(some 56), none, false, .pick (.t 51) (.k (.d (.bool true))) (.t 55)⟩,
 ⟨(some 57), none, false, .mov (.t 56)⟩,
 ⟨(some 58), (some (57, false)), false, .mov (.t 8)⟩,
 ⟨(some 59), (some (57, false)), false, .mov (.t 5)⟩,
 ⟨(some 60), (some (57, false)), false, .bb .neq (.t 58) (.t 59)⟩,
 ⟨(some 61), none, false, .pick (.t 57) (.k (.d (.bool true))) (.t 60)⟩])
 (.cond (.t 61)
 (.seq
 (.reg false [2] [⟨(some 2), none, false, .mov (.k (.d (.bool false)))⟩])
 .ret)
 .skip))
 (.seq
 (.reg false [1, 4, 5, 7, 10] [⟨(some 10), none, false, .mov (.k (.d (.int .i64 1)))⟩])
 (.seq
 (.reg false [1, 4, 5, 7, 10] [⟨(some 62), none, false, .mov (.t 7)⟩,
 ⟨(some 63), none, false, .mov (.t 10)⟩,
 ⟨(some 64), none, true, .call 18 [(.t 62), (.t 63)]⟩,
 ⟨(some 10), none, false, .mov (.t 64)⟩])
 (.seq
 (.reg false [1, 4, 5, 7, 10, 11] [⟨(some 11), none, false, .mov (.k (.d (.int .i64 1)))⟩])
 (.seq
 (.reg false [1, 4, 5, 7, 10, 11] [⟨(some 65), none, false, .mov (.t 7)⟩,
 ⟨(some 66), none, false, .mov (.t 11)⟩,
 ⟨(some 67), none, true, .call 19 [(.t 65), (.t 66)]⟩,
 ⟨(some 11), none, false, .mov (.t 67)⟩])
 (.seq
 (.seq
 (.reg false [1, 4, 5, 7, 10, 11, 69] [⟨(some 68), none, false, .mov (.t 11)⟩,
 ⟨(some 69), none, false, .bin .lss (.t 68) (.k (.d (.int .i64 0)))⟩])
 (.cond (.t 69)
 (.seq
 (.reg false [2] [⟨(some 2), none, false, .mov (.k (.d (.bool false)))⟩])
 .ret)
 .skip))
 (.seq
 (.seq
 (.reg false [1, 4, 5, 7, 10, 72] [⟨(some 70), none, false, .mov (.t 11)⟩,
 ⟨(some 71), none, false, .mov (.t 10)⟩,
 ⟨(some 72), none, false, .bin .neq (.t 70) (.t 71)⟩])
 (.cond (.t 72)
 (.seq
 (.reg false [2] [⟨(some 2), none, false, .mov (.k (.d (.bool false)))⟩])
 .ret)
 .skip))
 (.seq
 (.reg false [4, 5, 7, 10, 12, 13] [⟨(some 74), none, false, .ldv 5 (.t 1)⟩,
 ⟨(some 75), none, true, .call 11 [(.t 74)]⟩,
 ⟨(some 76), none, true, .call 21 [(.t 75)]⟩,
 ⟨(some 73), none, false, .mov (.t 76)⟩,
 ⟨(some 77), none, false, .ext (.t 73) 0⟩,
 ⟨(some 78), none, false, .ext (.t 73) 1⟩,
 ⟨(some 12), none, false, .mov (.t 77)⟩,
 ⟨(some 13), none, false, .mov (.t 78)⟩])
 (.seq
 (.seq
 (.reg false [7, 10, 87] [⟨(some 79), none, false, .mov (.t 12)⟩,
 ⟨(some 80), none, false, .mov (.t 4)⟩,
 ⟨(some 81), none, true, .call 16 [(.t 79), (.t 80)]⟩,
 ⟨(some 82), none, false, .un .not (.t 81)⟩,
 ⟨(some 83), none, false, .mov (.t 82)⟩,
 ⟨(some 84), (some (83, false)), false, .mov (.t 13)⟩,
 ⟨(some 85), (some (83, false)), false, .mov (.t 5)⟩,
 ⟨(some 86), (some (83, false)), false, .bb .neq (.t 84) (.t 85)⟩,
 ⟨(some 87), none, false, .pick (.t 83) (.k (.d (.bool true))) (.t 86)⟩])
 (.cond (.t 87)
 (.seq
 (.reg false [2] [⟨(some 2), none, false, .mov (.k (.d (.bool false)))⟩])
 .ret)
 .skip))
 (.seq
 (.reg false [7, 10, 11] [⟨(some 11), none, false, .mov (.k (.d (.int .i64 1)))⟩])
 (.seq
 (.reg false [10, 11] [⟨(some 88), none, false, .mov (.t 7)⟩,
 ⟨(some 89), none, false, .mov (.t 11)⟩,
 ⟨(some 90), none, true, .call 19 [(.t 88), (.t 89)]⟩,
 ⟨(some 11), none, false, .mov (.t 90)⟩])
 (.seq
 (.seq
 (.reg false [10, 11, 92] [⟨(some 91), none, false, .mov (.t 11)⟩,
 ⟨(some 92), none, false, .bin .lss (.t 91) (.k (.d (.int .i64 0)))⟩])
 (.cond (.t 92)
 (.seq
 (.reg false [2] [⟨(some 2), none, false, .mov (.k (.d (.bool false)))⟩])
 .ret)
 .skip))
 (.seq
 (.seq
 (.reg false [95] [⟨(some 93), none, false, .mov (.t 11)⟩,
 ⟨(some 94), none, false, .mov (.t 10)⟩,
 ⟨(some 95), none, false, .bin .neq (.t 93) (.t 94)⟩])
 (.cond (.t 95)
 (.seq
 (.reg false [2] [⟨(some 2), none, false, .mov (.k (.d (.bool false)))⟩])
 .ret)
 .skip))
 (.seq
 (.reg false [2] [⟨(some 2), none, false, .mov (.k (.d (.bool true)))⟩])
 .ret)))))))))))))))))))))))))
theorem c5 : (Go.Proofs.Tryd.f5).body.bind (comp prog.P (1, (Go.Proofs.Tryd.f5).ntmps) lv5) = some m5 := by kernel_rfl
theorem r5 : resOK prog.P (Go.Proofs.Tryd.f5).results.toList = true := by kernel_rfl

/-- laws.szOffice -/
def lv9 : List (Nat × List Nat) := [(0, [1, 2]), (1, [1, 2]), (2, [1, 2, 10]), (3, [4]), (4, [1]), (5, [1, 16]), (6, [4]), (7, [4])]
def m9 : MC :=
  (.seq
 (.reg false [1, 2] [⟨(some 2), none, true, .box (.t 0)⟩,
 ⟨(some 4), none, false, .mov (.k (.d (.int .i64 0)))⟩])
 (.seq
 (.reg false [1, 2] [⟨(some 5), none, false, .fa 1 1 (.t 2)⟩,
 ⟨(some 6), none, false, .ld none (.t 5)⟩,
 ⟨(some 7), none, false, .mov (.t 1)⟩,
 ⟨(some 8), none, true, .call 28 [(.t 6), (.t 7)]⟩,
 ⟨(some 1), none, false, .mov (.t 8)⟩])
 (.seq
 (.seq
 (.reg false [1, 2, 10] [⟨(some 9), none, false, .mov (.t 1)⟩,
 ⟨(some 10), none, false, .bin .lss (.t 9) (.k (.d (.int .i64 0)))⟩])
 (.cond (.t 10)
 (.seq
 (.reg false [4] [⟨(some 4), none, false, .mov (.k (.d (.int .i64 (-1))))⟩])
 .ret)
 .skip))
 (.seq
 (.reg false [1] [⟨(some 11), none, false, .fa 4 4 (.t 2)⟩,
 ⟨(some 12), none, false, .ld none (.t 11)⟩,
 ⟨(some 13), none, false, .mov (.t 1)⟩,
 ⟨(some 14), none, true, .call 29 [(.t 12), (.t 13)]⟩,
 ⟨(some 1), none, false, .mov (.t 14)⟩])
 (.seq
 (.seq
 (.reg false [1, 16] [⟨(some 15), none, false, .mov (.t 1)⟩,
 ⟨(some 16), none, false, .bin .lss (.t 15) (.k (.d (.int .i64 0)))⟩])
 (.cond (.t 16)
 (.seq
 (.reg false [4] [⟨(some 4), none, false, .mov (.k (.d (.int .i64 (-1))))⟩])
 .ret)
 .skip))
 (.seq
 (.reg false [4] [⟨(some 17), none, false, .mov (.t 1)⟩,
 ⟨(some 4), none, false, .mov (.t 17)⟩])
 .ret))))))
theorem c9 : (Go.Proofs.Tryd.f9).body.bind (comp prog.P (1, (Go.Proofs.Tryd.f9).ntmps) lv9) = some m9 := by kernel_rfl
theorem r9 : resOK prog.P (Go.Proofs.Tryd.f9).results.toList = true := by kernel_rfl

/-- laws.toOffice -/
def lv11 : List (Nat × List Nat) := [(0, [1, 2]), (1, [1, 2, 3]), (2, [1, 2, 3]), (3, [1, 2, 3]), (4, [1, 2, 3]), (5, [1, 2, 3]), (6, [2, 3]), (7, [2])]
def m11 : MC :=
  (.seq
 (.reg false [1, 2] [⟨(some 1), none, true, .box (.t 0)⟩,
 ⟨(some 2), none, true, .alloc (.st (.cons (.int .i64 0) (.cons (.sl true 4 .nil) (.cons (.int .i64 0) (.cons (.int .i64 0) (.cons (.sl true 1 .nil) .nil))))))⟩])
 (.seq
 (.reg false [1, 2, 3] [⟨(some 3), none, true, .alloc (.st (.cons (.int .i64 0) (.cons (.sl true 4 .nil) (.cons (.int .i64 0) (.cons (.int .i64 0) (.cons (.sl true 1 .nil) .nil))))))⟩])
 (.seq
 (.reg false [1, 2, 3] [⟨(some 4), none, false, .fa 0 0 (.t 1)⟩,
 ⟨(some 5), none, false, .ld none (.t 4)⟩,
 ⟨(some 6), none, false, .fa 0 0 (.t 3)⟩,
 ⟨none, none, true, .st 1 (.t 6) (.t 5)⟩])
 (.seq
 (.reg false [1, 2, 3] [⟨(some 7), none, false, .fa 1 1 (.t 1)⟩,
 ⟨(some 8), none, false, .ld none (.t 7)⟩,
 ⟨(some 9), none, true, .call 31 [(.t 8)]⟩,
 ⟨(some 10), none, false, .fa 1 1 (.t 3)⟩,
 ⟨none, none, true, .st 1 (.t 10) (.t 9)⟩])
 (.seq
 (.reg false [1, 2, 3] [⟨(some 11), none, false, .fa 2 2 (.t 1)⟩,
 ⟨(some 12), none, false, .ld none (.t 11)⟩,
 ⟨(some 13), none, false, .fa 2 2 (.t 3)⟩,
 ⟨none, none, true, .st 1 (.t 13) (.t 12)⟩])
 (.seq
 (.reg false [1, 2, 3] [⟨(some 14), none, false, .fa 3 3 (.t 1)⟩,
 ⟨(some 15), none, false, .ld none (.t 14)⟩,
 ⟨(some 16), none, false, .fa 3 3 (.t 3)⟩,
 ⟨none, none, true, .st 1 (.t 16) (.t 15)⟩])
 (.seq
 (.reg false [2, 3] [⟨(some 17), none, false, .fa 4 4 (.t 1)⟩,
 ⟨(some 18), none, false, .ld none (.t 17)⟩,
 ⟨(some 19), none, true, .call 32 [(.t 18)]⟩,
 ⟨(some 20), none, false, .fa 4 4 (.t 3)⟩,
 ⟨none, none, true, .st 1 (.t 20) (.t 19)⟩])
 (.seq
 (.reg false [2] [⟨(some 21), none, false, .ldv 5 (.t 3)⟩,
 ⟨none, none, true, .st 5 (.t 2) (.t 21)⟩])
 .ret))))))))
theorem c11 : (Go.Proofs.Tryd.f11).body.bind (comp prog.P (1, (Go.Proofs.Tryd.f11).ntmps) lv11) = some m11 := by kernel_rfl
theorem r11 : resOK prog.P (Go.Proofs.Tryd.f11).results.toList = true := by kernel_rfl

/-- impl.IsOffice -/
def lv12 : List (Nat × List Nat) := [(0, [1]), (1, [1, 38]), (2, [2]), (3, [1, 40, 41, 42]), (4, [1, 40, 41, 42, 43]), (5, [1, 3, 4, 40, 41, 42]), (6, [1, 40, 41, 42, 65]), (7, [2]), (8, [1, 40, 41, 42]), (9, [2])]
def m12 : MC :=
  (.seq
 (.reg false [1] [⟨(some 1), none, true, .box (.t 0)⟩,
 ⟨(some 2), none, false, .mov (.k (.d (.bool false)))⟩])
 (.seq
 (.seq
 (.reg false [1, 38] [⟨(some 5), none, false, .fa 0 0 (.t 1)⟩,
 ⟨(some 6), none, false, .ld none (.t 5)⟩,
 ⟨(some 7), none, true, .call 33 [(.t 6)]⟩,
 ⟨(some 8), none, false, .un .not (.t 7)⟩,
 ⟨(some 9), none, false, .mov (.t 8)⟩,
 ⟨(some 10), (some (9, false)), false, .fa 1 1 (.t 1)⟩,
 ⟨(some 11), (some (9, false)), false, .ld none (.t 10)⟩,
 ⟨(some 12), (some (9, false)), false, .len false (.t 11)⟩,
 ⟨(some 13), (some (9, false)), false, .bin .gtr (.t 12) (.k (.d (.int .i64 6)))⟩,
 ⟨(some 14), none, false, .pick (.t 9) (.k (.d (.bool true))) (.t 13)⟩,
 ⟨(some 15), none, false, .mov (.t 14)⟩,
 ⟨(some 16), (some (15, false)), false, .fa 2 2 (.t 1)⟩,
 ⟨(some 17), (some (15, false)), false, .ld none (.t 16)⟩,
 ⟨(some 18), (some (15, false)), true, .call 34 [(.t 17), (.k (.d (.int .i64 0))), (.k (.d (.int .i64 999)))]⟩,
 ⟨(some 19), (some (15, false)), false, .un .not (.t 18)⟩,
 ⟨(some 20), none, false, .pick (.t 15) (.k (.d (.bool true))) (.t 19)⟩,
 ⟨(some 21), none, false, .mov (.t 20)⟩,
 ⟨(some 22), (some (21, false)), false, .fa 3 3 (.t 1)⟩,
 ⟨(some 23), (some (21, false)), false, .ld none (.t 22)⟩,
 ⟨(some 24), (some (21, false)), true, .call 34 [(.t 23), (.k (.d (.int .i64 0))), (.k (.d (.int .i64 999)))]⟩,
 ⟨(some 25), (some (21, false)), false, .un .not (.t 24)⟩,
 ⟨(some 26), none, false, .pick (.t 21) (.k (.d (.bool true))) (.t 25)⟩,
 ⟨(some 27), none, false, .mov (.t 26)⟩,
 ⟨(some 28), (some (27, false)), false, .fa 4 4 (.t 1)⟩,
 ⟨(some 29), (some (27, false)), false, .ld none (.t 28)⟩,
 ⟨(some 30), (some (27, false)), false, .len false (.t 29)⟩,
 ⟨(some 31), (some (27, false)), false, .bin .gtr (.t 30) (.k (.d (.int .i64 0)))⟩,
 ⟨(some 32), (some (27, false)), false, .mov (.t 31)⟩,
 ⟨(some 33), (some (32, true)), false, .fa 4 4 (.t 1)⟩,
 ⟨(some 34), (some (32, true)), false, .ld none (.t 33)⟩,
 ⟨(some 35), (some (32, true)), true, .call 35 [(.t 34)]⟩,
 ⟨(some 36), (some (32, true)), false, .un .not (.t 35)⟩,
 ⟨(some 37), (some (27, false)), false, .pick (.t 32) (.t 36) (.k (.d (.bool false)))⟩,
 ⟨(some 38), none, false, .pick (.t 27) (.k (.d (.bool true))) (.t 37)⟩])
 (.cond (.t 38)
 (.seq
 (.reg false [2] [⟨(some 2), none, false, .mov (.k (.d (.bool false)))⟩])
 .ret)
 .skip))
 (.seq
 (.seq
 (.reg false [1, 40, 41, 42] [⟨(some 39), none, false, .fa 1 1 (.t 1)⟩,
 ⟨(some 40), none, false, .ld none (.t 39)⟩,
 ⟨(some 41), none, false, .len false (.t 40)⟩,
 ⟨(some 42), none, false, .mov (.k (.d (.int .i64 0)))⟩])
 (.block 0
 (.loop
 (.seq
 (.reg false [1, 40, 41, 42, 43] [⟨(some 43), none, false, .bin .lss (.t 42) (.t 41)⟩])
 (.seq
 (.cond (.t 43)
 .skip
 (.exit 0))
 (.seq
 (.block 1
 (.seq
 (.reg false [1, 3, 4, 40, 41, 42] [⟨(some 44), none, false, .mov (.t 42)⟩,
 ⟨(some 45), none, false, .ia 4 (.t 40) (.t 42)⟩,
 ⟨(some 46), none, false, .ld (some 4) (.t 45)⟩,
 ⟨(some 4), none, true, .alloc (.st (.cons (.int .i64 0) (.cons (.int .i64 0) (.cons (.int .i64 0) (.cons (.sl true 1 .nil) .nil)))))⟩,
 ⟨(some 3), none, false, .mov (.t 44)⟩,
 ⟨none, none, true, .st 4 (.t 4) (.t 46)⟩])
 (.seq
 (.reg true [1, 40, 41, 42, 65] [⟨(some 47), none, false, .ld (some 4) (.t 4)⟩,
 ⟨(some 48), none, false, .callP 36 [(.t 47)]⟩,
 ⟨(some 49), none, false, .un .not (.t 48)⟩,
 ⟨(some 50), none, false, .mov (.t 49)⟩,
 ⟨(some 51), (some (50, false)), false, .mov (.t 3)⟩,
 ⟨(some 52), (some (50, false)), false, .bin .gtr (.t 51) (.k (.d (.int .i64 0)))⟩,
 ⟨(some 53), (some (50, false)), false, .mov (.t 52)⟩,
 ⟨(some 54), (some (53, true)), false, .fa 1 1 (.t 1)⟩,
 ⟨(some 55), (some (53, true)), false, .ld none (.t 54)⟩,
 ⟨(some 56), (some (53, true)), false, .mov (.t 3)⟩,
 ⟨(some 57), (some (53, true)), false, .bin .sub (.t 56) (.k (.d (.int .i64 1)))⟩,
 ⟨(some 58), (some (53, true)), false, .ia 4 (.t 55) (.t 57)⟩,
 ⟨(some 59), (some (53, true)), false, .fa 0 0 (.t 58)⟩,
 ⟨(some 60), (some (53, true)), false, .ld none (.t 59)⟩,
 ⟨(some 61), (some (53, true)), false, .fa 0 0 (.t 4)⟩,
 ⟨(some 62), (some (53, true)), false, .ld none (.t 61)⟩,
 ⟨(some 63), (some (53, true)), false, .bin .geq (.t 60) (.t 62)⟩,
 ⟨(some 64), (some (50, false)), false, .pick (.t 53) (.t 63) (.k (.d (.bool false)))⟩,
 ⟨(some 65), none, false, .pick (.t 50) (.k (.d (.bool true))) (.t 64)⟩])
 (.cond (.t 65)
 (.seq
 (.reg false [2] [⟨(some 2), none, false, .mov (.k (.d (.bool false)))⟩])
 .ret)
 .skip))))
 (.reg false [1, 40, 41, 42] [⟨(some 66), none, false, .bin .add (.t 42) (.k (.d (.int .i64 1)))⟩,
 ⟨(some 42), none, false, .mov (.t 66)⟩])))))))
 (.seq
 (.reg false [2] [⟨(some 2), none, false, .mov (.k (.d (.bool true)))⟩])
 .ret))))
theorem c12 : (Go.Proofs.Tryd.f12).body.bind (comp prog.P (1, (Go.Proofs.Tryd.f12).ntmps) lv12) = some m12 := by kernel_rfl
theorem r12 : resOK prog.P (Go.Proofs.Tryd.f12).results.toList = true := by kernel_rfl

/-- laws.eqOffice -/
def lv13 : List (Nat × List Nat) := [(0, [2, 3]), (1, [2, 3, 9]), (2, [4]), (3, [2, 3, 15]), (4, [4]), (5, [2, 3, 20]), (6, [4]), (7, [2, 3, 25]), (8, [4]), (9, [31]), (10, [4]), (11, [4])]
def m13 : MC :=
  (.seq
 (.reg false [2, 3] [⟨(some 2), none, true, .box (.t 0)⟩,
 ⟨(some 3), none, true, .box (.t 1)⟩,
 ⟨(some 4), none, false, .mov (.k (.d (.bool false)))⟩])
 (.seq
 (.seq
 (.reg false [2, 3, 9] [⟨(some 5), none, false, .fa 0 0 (.t 2)⟩,
 ⟨(some 6), none, false, .ld none (.t 5)⟩,
 ⟨(some 7), none, false, .fa 0 0 (.t 3)⟩,
 ⟨(some 8), none, false, .ld none (.t 7)⟩,
 ⟨(some 9), none, false, .bin .neq (.t 6) (.t 8)⟩])
 (.cond (.t 9)
 (.seq
 (.reg false [4] [⟨(some 4), none, false, .mov (.k (.d (.bool false)))⟩])
 .ret)
 .skip))
 (.seq
 (.seq
 (.reg false [2, 3, 15] [⟨(some 10), none, false, .fa 1 1 (.t 2)⟩,
 ⟨(some 11), none, false, .ld none (.t 10)⟩,
 ⟨(some 12), none, false, .fa 1 1 (.t 3)⟩,
 ⟨(some 13), none, false, .ld none (.t 12)⟩,
 ⟨(some 14), none, true, .call 37 [(.t 11), (.t 13)]⟩,
 ⟨(some 15), none, false, .un .not (.t 14)⟩])
 (.cond (.t 15)
 (.seq
 (.reg false [4] [⟨(some 4), none, false, .mov (.k (.d (.bool false)))⟩])
 .ret)
 .skip))
 (.seq
 (.seq
 (.reg false [2, 3, 20] [⟨(some 16), none, false, .fa 2 2 (.t 2)⟩,
 ⟨(some 17), none, false, .ld none (.t 16)⟩,
 ⟨(some 18), none, false, .fa 2 2 (.t 3)⟩,
 ⟨(some 19), none, false, .ld none (.t 18)⟩,
 ⟨(some 20), none, false, .bin .neq (.t 17) (.t 19)⟩])
 (.cond (.t 20)
 (.seq
 (.reg false [4] [⟨(some 4), none, false, .mov (.k (.d (.bool false)))⟩])
 .ret)
 .skip))
 (.seq
 (.seq
 (.reg false [2, 3, 25] [⟨(some 21), none, false, .fa 3 3 (.t 2)⟩,
 ⟨(some 22), none, false, .ld none (.t 21)⟩,
 ⟨(some 23), none, false, .fa 3 3 (.t 3)⟩,
 ⟨(some 24), none, false, .ld none (.t 23)⟩,
 ⟨(some 25), none, false, .bin .neq (.t 22) (.t 24)⟩])
 (.cond (.t 25)
 (.seq
 (.reg false [4] [⟨(some 4), none, false, .mov (.k (.d (.bool false)))⟩])
 .ret)
 .skip))
 (.seq
 (.seq
 (.reg false [31] [⟨(some 26), none, false, .fa 4 4 (.t 2)⟩,
 ⟨(some 27), none, false, .ld none (.t 26)⟩,
 ⟨(some 28), none, false, .fa 4 4 (.t 3)⟩,
 ⟨(some 29), none, false, .ld none (.t 28)⟩,
 ⟨(some 30), none, true, .call 38 [(.t 27), (.t 29)]⟩,
 ⟨(some 31), none, false, .un .not (.t 30)⟩])
 (.cond (.t 31)
 (.seq
 (.reg false [4] [⟨(some 4), none, false, .mov (.k (.d (.bool false)))⟩])
 .ret)
 .skip))
 (.seq
 (.reg false [4] [⟨(some 4), none, false, .mov (.k (.d (.bool true)))⟩])
 .ret)))))))
theorem c13 : (Go.Proofs.Tryd.f13).body.bind (comp prog.P (2, (Go.Proofs.Tryd.f13).ntmps) lv13) = some m13 := by kernel_rfl
theorem r13 : resOK prog.P (Go.Proofs.Tryd.f13).results.toList = true := by kernel_rfl

/-- laws.eqIntS -/
def lv16 : List (Nat × List Nat) := [(0, [0, 1]), (1, [0, 1, 10]), (2, [4]), (3, [0, 1, 5]), (4, [0, 1, 5, 14]), (5, [0, 1, 5]), (6, [0, 1, 5, 25]), (7, [4]), (8, [4])]
def m16 : MC :=
  (.seq
 (.reg false [0, 1] [⟨(some 4), none, false, .mov (.k (.d (.bool false)))⟩])
 (.seq
 (.seq
 (.reg false [0, 1, 10] [⟨(some 6), none, false, .mov (.t 0)⟩,
 ⟨(some 7), none, false, .len false (.t 6)⟩,
 ⟨(some 8), none, false, .mov (.t 1)⟩,
 ⟨(some 9), none, false, .len false (.t 8)⟩,
 ⟨(some 10), none, false, .bin .neq (.t 7) (.t 9)⟩])
 (.cond (.t 10)
 (.seq
 (.reg false [4] [⟨(some 4), none, false, .mov (.k (.d (.bool false)))⟩])
 .ret)
 .skip))
 (.seq
 (.seq
 (.reg false [0, 1, 5] [⟨(some 5), none, false, .mov (.k (.d (.int .i64 0)))⟩])
 (.block 0
 (.loop
 (.seq
 (.seq
 (.reg false [0, 1, 5, 14] [⟨(some 11), none, false, .mov (.t 5)⟩,
 ⟨(some 12), none, false, .mov (.t 0)⟩,
 ⟨(some 13), none, false, .len false (.t 12)⟩,
 ⟨(some 14), none, false, .bin .lss (.t 11) (.t 13)⟩])
 (.cond (.t 14)
 .skip
 (.exit 0)))
 (.seq
 (.block 1
 (.seq
 (.reg true [0, 1, 5, 25] [⟨(some 17), none, false, .mov (.t 0)⟩,
 ⟨(some 18), none, false, .mov (.t 5)⟩,
 ⟨(some 19), none, false, .ia 1 (.t 17) (.t 18)⟩,
 ⟨(some 20), none, false, .ld none (.t 19)⟩,
 ⟨(some 21), none, false, .mov (.t 1)⟩,
 ⟨(some 22), none, false, .mov (.t 5)⟩,
 ⟨(some 23), none, false, .ia 1 (.t 21) (.t 22)⟩,
 ⟨(some 24), none, false, .ld none (.t 23)⟩,
 ⟨(some 25), none, false, .bin .neq (.t 20) (.t 24)⟩])
 (.cond (.t 25)
 (.seq
 (.reg false [4] [⟨(some 4), none, false, .mov (.k (.d (.bool false)))⟩])
 .ret)
 .skip)))
 (.reg false [0, 1, 5] [⟨(some 15), none, false, .mov (.t 5)⟩,
 ⟨(some 16), none, false, .bin .add (.t 15) (.k (.d (.int .i64 1)))⟩,
 ⟨(some 5), none, false, .mov (.t 16)⟩]))))))
 (.seq
 (.reg false [4] [⟨(some 4), none, false, .mov (.k (.d (.bool true)))⟩])
 .ret))))
theorem c16 : (Go.Proofs.Tryd.f16).body.bind (comp prog.P (2, (Go.Proofs.Tryd.f16).ntmps) lv16) = some m16 := by kernel_rfl
theorem r16 : resOK prog.P (Go.Proofs.Tryd.f16).results.toList = true := by kernel_rfl

/-- laws.markOffice -/
def lv17 : List (Nat × List Nat) := [(0, [0, 1, 2]), (1, [0, 1, 2]), (2, [0, 1]), (3, [0, 4])]
def m17 : MC :=
  (.seq
 (.reg false [0, 1, 2] [⟨(some 2), none, true, .box (.t 0)⟩,
 ⟨(some 4), none, false, .mov (.k (.d (.int .i64 0)))⟩])
 (.seq
 (.reg false [0, 1, 2] [⟨(some 5), none, false, .fa 1 1 (.t 2)⟩,
 ⟨(some 6), none, false, .ld none (.t 5)⟩,
 ⟨(some 7), none, false, .mov (.t 1)⟩,
 ⟨(some 8), none, true, .call 41 [(.t 6), (.t 7)]⟩,
 ⟨(some 1), none, false, .mov (.t 8)⟩])
 (.seq
 (.reg false [0, 1] [⟨(some 9), none, false, .fa 4 4 (.t 2)⟩,
 ⟨(some 10), none, false, .ld none (.t 9)⟩,
 ⟨(some 11), none, false, .mov (.t 1)⟩,
 ⟨(some 12), none, true, .call 42 [(.t 10), (.t 11)]⟩,
 ⟨(some 1), none, false, .mov (.t 12)⟩])
 (.seq
 (.reg false [0, 4] [⟨(some 13), none, false, .mov (.t 1)⟩,
 ⟨(some 4), none, false, .mov (.t 13)⟩])
 .ret))))
theorem c17 : (Go.Proofs.Tryd.f17).body.bind (comp prog.P (1, (Go.Proofs.Tryd.f17).ntmps) lv17) = some m17 := by kernel_rfl
theorem r17 : resOK prog.P (Go.Proofs.Tryd.f17).results.toList = true := by kernel_rfl

/-- laws.markIntS -/
def lv18 : List (Nat × List Nat) := [(0, [0, 1]), (1, [0, 1, 5]), (2, [0, 1, 5, 9]), (3, [0, 1, 5]), (4, [0, 1, 5]), (5, [0, 1, 5]), (6, [0, 4])]
def m18 : MC :=
  (.seq
 (.reg false [0, 1] [⟨(some 4), none, false, .mov (.k (.d (.int .i64 0)))⟩])
 (.seq
 (.seq
 (.reg false [0, 1, 5] [⟨(some 5), none, false, .mov (.k (.d (.int .i64 0)))⟩])
 (.block 0
 (.loop
 (.seq
 (.seq
 (.reg false [0, 1, 5, 9] [⟨(some 6), none, false, .mov (.t 5)⟩,
 ⟨(some 7), none, false, .mov (.t 0)⟩,
 ⟨(some 8), none, false, .len false (.t 7)⟩,
 ⟨(some 9), none, false, .bin .lss (.t 6) (.t 8)⟩])
 (.cond (.t 9)
 .skip
 (.exit 0)))
 (.seq
 (.block 1
 (.seq
 (.reg false [0, 1, 5] [⟨(some 12), none, false, .mov (.t 0)⟩,
 ⟨(some 13), none, false, .mov (.t 5)⟩,
 ⟨(some 14), none, false, .mov (.t 1)⟩,
 ⟨(some 15), none, false, .ia 1 (.t 12) (.t 13)⟩,
 ⟨none, none, true, .st 1 (.t 15) (.t 14)⟩])
 (.reg false [0, 1, 5] [⟨(some 16), none, false, .mov (.t 1)⟩,
 ⟨(some 17), none, false, .bin .add (.t 16) (.k (.d (.int .i64 1)))⟩,
 ⟨(some 1), none, false, .mov (.t 17)⟩])))
 (.reg false [0, 1, 5] [⟨(some 10), none, false, .mov (.t 5)⟩,
 ⟨(some 11), none, false, .bin .add (.t 10) (.k (.d (.int .i64 1)))⟩,
 ⟨(some 5), none, false, .mov (.t 11)⟩]))))))
 (.seq
 (.reg false [0, 4] [⟨(some 18), none, false, .mov (.t 1)⟩,
 ⟨(some 4), none, false, .mov (.t 18)⟩])
 .ret)))
theorem c18 : (Go.Proofs.Tryd.f18).body.bind (comp prog.P (1, (Go.Proofs.Tryd.f18).ntmps) lv18) = some m18 := by kernel_rfl
theorem r18 : resOK prog.P (Go.Proofs.Tryd.f18).results.toList = true := by kernel_rfl

/-- laws.heldIntS -/
def lv19 : List (Nat × List Nat) := [(0, [0, 1]), (1, [0, 1, 5]), (2, [0, 1, 5, 9]), (3, [0, 1, 5]), (4, [0, 1, 5, 17]), (5, [4]), (6, [0, 1, 5]), (7, [4])]
def m19 : MC :=
  (.seq
 (.reg false [0, 1] [⟨(some 4), none, false, .mov (.k (.d (.int .i64 0)))⟩])
 (.seq
 (.seq
 (.reg false [0, 1, 5] [⟨(some 5), none, false, .mov (.k (.d (.int .i64 0)))⟩])
 (.block 0
 (.loop
 (.seq
 (.seq
 (.reg false [0, 1, 5, 9] [⟨(some 6), none, false, .mov (.t 5)⟩,
 ⟨(some 7), none, false, .mov (.t 0)⟩,
 ⟨(some 8), none, false, .len false (.t 7)⟩,
 ⟨(some 9), none, false, .bin .lss (.t 6) (.t 8)⟩])
 (.cond (.t 9)
 .skip
 (.exit 0)))
 (.seq
 (.block 1
 (.seq
 (.seq
 (.reg false [0, 1, 5, 17] [⟨(some 12), none, false, .mov (.t 0)⟩,
 ⟨(some 13), none, false, .mov (.t 5)⟩,
 ⟨(some 14), none, false, .ia 1 (.t 12) (.t 13)⟩,
 ⟨(some 15), none, false, .ld none (.t 14)⟩,
 ⟨(some 16), none, false, .mov (.t 1)⟩,
 ⟨(some 17), none, false, .bin .neq (.t 15) (.t 16)⟩])
 (.cond (.t 17)
 (.seq
 (.reg false [4] [⟨(some 4), none, false, .mov (.k (.d (.int .i64 (-1))))⟩])
 .ret)
 .skip))
 (.reg false [0, 1, 5] [⟨(some 18), none, false, .mov (.t 1)⟩,
 ⟨(some 19), none, false, .bin .add (.t 18) (.k (.d (.int .i64 1)))⟩,
 ⟨(some 1), none, false, .mov (.t 19)⟩])))
 (.reg false [0, 1, 5] [⟨(some 10), none, false, .mov (.t 5)⟩,
 ⟨(some 11), none, false, .bin .add (.t 10) (.k (.d (.int .i64 1)))⟩,
 ⟨(some 5), none, false, .mov (.t 11)⟩]))))))
 (.seq
 (.reg false [4] [⟨(some 20), none, false, .mov (.t 1)⟩,
 ⟨(some 4), none, false, .mov (.t 20)⟩])
 .ret)))
theorem c19 : (Go.Proofs.Tryd.f19).body.bind (comp prog.P (1, (Go.Proofs.Tryd.f19).ntmps) lv19) = some m19 := by kernel_rfl
theorem r19 : resOK prog.P (Go.Proofs.Tryd.f19).results.toList = true := by kernel_rfl

/-- spec.BlockedCases -/
def lv20 : List (Nat × List Nat) := [(0, [1]), (1, [1, 4]), (2, [1, 4, 10]), (3, [2, 3]), (4, [1, 4, 5]), (5, [1, 4, 5, 16]), (6, [1, 4, 5]), (7, [1, 4, 5, 6]), (8, [1, 4, 5, 6, 39]), (9, [1, 4, 5]), (10, [2, 3])]
def m20 : MC :=
  (.seq
 (.reg false [1] [⟨(some 1), none, true, .box (.t 0)⟩,
 ⟨(some 2), none, false, .mov (.k .nil)⟩,
 ⟨(some 3), none, false, .mov (.k (.d (.bool false)))⟩])
 (.seq
 (.reg false [1, 4] [⟨(some 7), none, true, .bs 1 0 (.int .i64 0) []⟩,
 ⟨(some 4), none, false, .mov (.t 7)⟩])
 (.seq
 (.seq
 (.reg false [1, 4, 10] [⟨(some 8), none, false, .ldv 5 (.t 1)⟩,
 ⟨(some 9), none, true, .call 30 [(.t 8)]⟩,
 ⟨(some 10), none, false, .un .not (.t 9)⟩])
 (.cond (.t 10)
 (.seq
 (.reg false [2, 3] [⟨(some 11), none, false, .mov (.t 4)⟩,
 ⟨(some 2), none, false, .mov (.t 11)⟩,
 ⟨(some 3), none, false, .mov (.k (.d (.bool false)))⟩])
 .ret)
 .skip))
 (.seq
 (.seq
 (.reg false [1, 4, 5] [⟨(some 5), none, false, .mov (.k (.d (.int .i64 0)))⟩])
 (.block 0
 (.loop
 (.seq
 (.seq
 (.reg false [1, 4, 5, 16] [⟨(some 12), none, false, .mov (.t 5)⟩,
 ⟨(some 13), none, false, .fa 1 1 (.t 1)⟩,
 ⟨(some 14), none, false, .ld none (.t 13)⟩,
 ⟨(some 15), none, false, .len false (.t 14)⟩,
 ⟨(some 16), none, false, .bin .lss (.t 12) (.t 15)⟩])
 (.cond (.t 16)
 .skip
 (.exit 0)))
 (.seq
 (.block 1
 (.seq
 (.reg false [1, 4, 5, 6] [⟨(some 19), none, false, .fa 1 1 (.t 1)⟩,
 ⟨(some 20), none, false, .ld none (.t 19)⟩,
 ⟨(some 21), none, false, .mov (.t 5)⟩,
 ⟨(some 22), none, false, .ia 4 (.t 20) (.t 21)⟩,
 ⟨(some 23), none, false, .ld (some 4) (.t 22)⟩,
 ⟨(some 6), none, true, .alloc (.st (.cons (.int .i64 0) (.cons (.int .i64 0) (.cons (.int .i64 0) (.cons (.sl true 1 .nil) .nil)))))⟩,
 ⟨none, none, true, .st 4 (.t 6) (.t 23)⟩])
 (.seq
 (.reg false [1, 4, 5, 6, 39] [⟨(some 24), none, false, .fa 2 2 (.t 6)⟩,
 ⟨(some 25), none, false, .ld none (.t 24)⟩,
 ⟨(some 26), none, false, .fa 0 0 (.t 1)⟩,
 ⟨(some 27), none, false, .ld none (.t 26)⟩,
 ⟨(some 28), none, false, .bin .leq (.t 25) (.t 27)⟩,
 ⟨(some 29), none, false, .mov (.t 28)⟩,
 ⟨(some 30), (some (29, true)), false, .fa 1 1 (.t 6)⟩,
 ⟨(some 31), (some (29, true)), false, .ld none (.t 30)⟩,
 ⟨(some 32), (some (29, true)), false, .bin .eql (.t 31) (.k (.d (.int .i64 3)))⟩,
 ⟨(some 33), none, false, .pick (.t 29) (.t 32) (.k (.d (.bool false)))⟩,
 ⟨(some 34), none, false, .mov (.t 33)⟩,
 ⟨(some 35), (some (34, true)), false, .fa 3 3 (.t 6)⟩,
 ⟨(some 36), (some (34, true)), false, .ld none (.t 35)⟩,
 ⟨(some 37), (some (34, true)), false, .len false (.t 36)⟩,
 ⟨(some 38), (some (34, true)), false, .bin .gtr (.t 37) (.k (.d (.int .i64 0)))⟩,
 ⟨(some 39), none, false, .pick (.t 34) (.t 38) (.k (.d (.bool false)))⟩])
 (.cond (.t 39)
 (.reg false [1, 4, 5] [⟨(some 40), none, false, .mov (.t 4)⟩,
 ⟨(some 41), none, false, .fa 0 0 (.t 6)⟩,
 ⟨(some 42), none, false, .ld none (.t 41)⟩,
 ⟨(some 43), none, true, .bs 1 1 (.int .i64 0) [(0, (.t 42))]⟩,
 ⟨(some 44), none, true, .app 1 8 (.t 40) (.t 43)⟩,
 ⟨(some 4), none, false, .mov (.t 44)⟩])
 .skip))))
 (.reg false [1, 4, 5] [⟨(some 17), none, false, .mov (.t 5)⟩,
 ⟨(some 18), none, false, .bin .add (.t 17) (.k (.d (.int .i64 1)))⟩,
 ⟨(some 5), none, false, .mov (.t 18)⟩]))))))
 (.seq
 (.reg false [2, 3] [⟨(some 45), none, false, .mov (.t 4)⟩,
 ⟨(some 2), none, false, .mov (.t 45)⟩,
 ⟨(some 3), none, false, .mov (.k (.d (.bool true)))⟩])
 .ret)))))
theorem c20 : (Go.Proofs.Tryd.f20).body.bind (comp prog.P (1, (Go.Proofs.Tryd.f20).ntmps) lv20) = some m20 := by kernel_rfl
theorem r20 : resOK prog.P (Go.Proofs.Tryd.f20).results.toList = true := by kernel_rfl

/-- impl.BlockedCases -/
def lv21 : List (Nat × List Nat) := [(0, [1]), (1, [1, 6]), (2, [2, 3]), (3, [2, 3])]
def m21 : MC :=
  (.seq
 (.reg false [1] [⟨(some 1), none, true, .box (.t 0)⟩,
 ⟨(some 2), none, false, .mov (.k .nil)⟩,
 ⟨(some 3), none, false, .mov (.k (.d (.bool false)))⟩])
 (.seq
 (.seq
 (.reg false [1, 6] [⟨(some 4), none, false, .ldv 5 (.t 1)⟩,
 ⟨(some 5), none, true, .call 12 [(.t 4)]⟩,
 ⟨(some 6), none, false, .un .not (.t 5)⟩])
 (.cond (.t 6)
 (.seq
 (.reg false [2, 3] [⟨(some 2), none, false, .mov (.k .nil)⟩,
 ⟨(some 3), none, false, .mov (.k (.d (.bool false)))⟩])
 .ret)
 .skip))
 (.seq
 (.reg false [2, 3] [⟨(some 7), none, false, .ldv 5 (.t 1)⟩,
 ⟨(some 8), none, false, .clos 43 [(.t 1)]⟩,
 ⟨(some 9), none, true, .call 39 [(.t 7), (.t 8)]⟩,
 ⟨(some 2), none, false, .mov (.t 9)⟩,
 ⟨(some 3), none, false, .mov (.k (.d (.bool true)))⟩])
 .ret)))
theorem c21 : (Go.Proofs.Tryd.f21).body.bind (comp prog.P (1, (Go.Proofs.Tryd.f21).ntmps) lv21) = some m21 := by kernel_rfl
theorem r21 : resOK prog.P (Go.Proofs.Tryd.f21).results.toList = true := by kernel_rfl

/-- laws.szCaseS -/
def lv28 : List (Nat × List Nat) := [(0, [0, 1]), (1, [0, 1]), (2, [0, 1, 11]), (3, [4]), (4, [0, 1, 5]), (5, [0, 1, 5, 15]), (6, [0, 1, 5]), (7, [0, 1, 5]), (8, [0, 1, 5, 25]), (9, [4]), (10, [4])]
def m28 : MC :=
  (.seq
 (.reg false [0, 1] [⟨(some 4), none, false, .mov (.k (.d (.int .i64 0)))⟩])
 (.seq
 (.reg false [0, 1] [⟨(some 6), none, false, .mov (.t 1)⟩,
 ⟨(some 7), none, false, .mov (.t 0)⟩,
 ⟨(some 8), none, false, .len false (.t 7)⟩,
 ⟨(some 9), none, false, .bin .sub (.t 6) (.t 8)⟩,
 ⟨(some 1), none, false, .mov (.t 9)⟩])
 (.seq
 (.seq
 (.reg false [0, 1, 11] [⟨(some 10), none, false, .mov (.t 1)⟩,
 ⟨(some 11), none, false, .bin .lss (.t 10) (.k (.d (.int .i64 0)))⟩])
 (.cond (.t 11)
 (.seq
 (.reg false [4] [⟨(some 4), none, false, .mov (.k (.d (.int .i64 (-1))))⟩])
 .ret)
 .skip))
 (.seq
 (.seq
 (.reg false [0, 1, 5] [⟨(some 5), none, false, .mov (.k (.d (.int .i64 0)))⟩])
 (.block 0
 (.loop
 (.seq
 (.seq
 (.reg false [0, 1, 5, 15] [⟨(some 12), none, false, .mov (.t 5)⟩,
 ⟨(some 13), none, false, .mov (.t 0)⟩,
 ⟨(some 14), none, false, .len false (.t 13)⟩,
 ⟨(some 15), none, false, .bin .lss (.t 12) (.t 14)⟩])
 (.cond (.t 15)
 .skip
 (.exit 0)))
 (.seq
 (.block 1
 (.seq
 (.reg false [0, 1, 5] [⟨(some 18), none, false, .mov (.t 0)⟩,
 ⟨(some 19), none, false, .mov (.t 5)⟩,
 ⟨(some 20), none, false, .ia 4 (.t 18) (.t 19)⟩,
 ⟨(some 21), none, false, .ld (some 4) (.t 20)⟩,
 ⟨(some 22), none, false, .mov (.t 1)⟩,
 ⟨(some 23), none, true, .call 55 [(.t 21), (.t 22)]⟩,
 ⟨(some 1), none, false, .mov (.t 23)⟩])
 (.seq
 (.reg false [0, 1, 5, 25] [⟨(some 24), none, false, .mov (.t 1)⟩,
 ⟨(some 25), none, false, .bin .lss (.t 24) (.k (.d (.int .i64 0)))⟩])
 (.cond (.t 25)
 (.seq
 (.reg false [4] [⟨(some 4), none, false, .mov (.k (.d (.int .i64 (-1))))⟩])
 .ret)
 .skip))))
 (.reg false [0, 1, 5] [⟨(some 16), none, false, .mov (.t 5)⟩,
 ⟨(some 17), none, false, .bin .add (.t 16) (.k (.d (.int .i64 1)))⟩,
 ⟨(some 5), none, false, .mov (.t 17)⟩]))))))
 (.seq
 (.reg false [4] [⟨(some 26), none, false, .mov (.t 1)⟩,
 ⟨(some 4), none, false, .mov (.t 26)⟩])
 .ret)))))
theorem c28 : (Go.Proofs.Tryd.f28).body.bind (comp prog.P (1, (Go.Proofs.Tryd.f28).ntmps) lv28) = some m28 := by kernel_rfl
theorem r28 : resOK prog.P (Go.Proofs.Tryd.f28).results.toList = true := by kernel_rfl

/-- laws.szStringS -/
def lv29 : List (Nat × List Nat) := [(0, [0, 1]), (1, [0, 1]), (2, [0, 1, 11]), (3, [4]), (4, [0, 1, 5]), (5, [0, 1, 5, 15]), (6, [0, 1, 5]), (7, [0, 1, 5]), (8, [0, 1, 5, 26]), (9, [4]), (10, [4])]
def m29 : MC :=
  (.seq
 (.reg false [0, 1] [⟨(some 4), none, false, .mov (.k (.d (.int .i64 0)))⟩])
 (.seq
 (.reg false [0, 1] [⟨(some 6), none, false, .mov (.t 1)⟩,
 ⟨(some 7), none, false, .mov (.t 0)⟩,
 ⟨(some 8), none, false, .len false (.t 7)⟩,
 ⟨(some 9), none, false, .bin .sub (.t 6) (.t 8)⟩,
 ⟨(some 1), none, false, .mov (.t 9)⟩])
 (.seq
 (.seq
 (.reg false [0, 1, 11] [⟨(some 10), none, false, .mov (.t 1)⟩,
 ⟨(some 11), none, false, .bin .lss (.t 10) (.k (.d (.int .i64 0)))⟩])
 (.cond (.t 11)
 (.seq
 (.reg false [4] [⟨(some 4), none, false, .mov (.k (.d (.int .i64 (-1))))⟩])
 .ret)
 .skip))
 (.seq
 (.seq
 (.reg false [0, 1, 5] [⟨(some 5), none, false, .mov (.k (.d (.int .i64 0)))⟩])
 (.block 0
 (.loop
 (.seq
 (.seq
 (.reg false [0, 1, 5, 15] [⟨(some 12), none, false, .mov (.t 5)⟩,
 ⟨(some 13), none, false, .mov (.t 0)⟩,
 ⟨(some 14), none, false, .len false (.t 13)⟩,
 ⟨(some 15), none, false, .bin .lss (.t 12) (.t 14)⟩])
 (.cond (.t 15)
 .skip
 (.exit 0)))
 (.seq
 (.block 1
 (.seq
 (.reg false [0, 1, 5] [⟨(some 18), none, false, .mov (.t 1)⟩,
 ⟨(some 19), none, false, .mov (.t 0)⟩,
 ⟨(some 20), none, false, .mov (.t 5)⟩,
 ⟨(some 21), none, false, .ia 1 (.t 19) (.t 20)⟩,
 ⟨(some 22), none, false, .ld none (.t 21)⟩,
 ⟨(some 23), none, false, .len true (.t 22)⟩,
 ⟨(some 24), none, false, .bin .sub (.t 18) (.t 23)⟩,
 ⟨(some 1), none, false, .mov (.t 24)⟩])
 (.seq
 (.reg false [0, 1, 5, 26] [⟨(some 25), none, false, .mov (.t 1)⟩,
 ⟨(some 26), none, false, .bin .lss (.t 25) (.k (.d (.int .i64 0)))⟩])
 (.cond (.t 26)
 (.seq
 (.reg false [4] [⟨(some 4), none, false, .mov (.k (.d (.int .i64 (-1))))⟩])
 .ret)
 .skip))))
 (.reg false [0, 1, 5] [⟨(some 16), none, false, .mov (.t 5)⟩,
 ⟨(some 17), none, false, .bin .add (.t 16) (.k (.d (.int .i64 1)))⟩,
 ⟨(some 5), none, false, .mov (.t 17)⟩]))))))
 (.seq
 (.reg false [4] [⟨(some 27), none, false, .mov (.t 1)⟩,
 ⟨(some 4), none, false, .mov (.t 27)⟩])
 .ret)))))
theorem c29 : (Go.Proofs.Tryd.f29).body.bind (comp prog.P (1, (Go.Proofs.Tryd.f29).ntmps) lv29) = some m29 := by kernel_rfl
theorem r29 : resOK prog.P (Go.Proofs.Tryd.f29).results.toList = true := by kernel_rfl

/-- spec.l25Good -/
def lv30 : List (Nat × List Nat) := [(0, [1]), (1, [1, 37]), (2, [2]), (3, [1, 3]), (4, [1, 3, 42]), (5, [1, 3]), (6, [1, 3, 71]), (7, [2]), (8, [2])]
def m30 : MC :=
  (.seq
 (.reg false [1] [⟨(some 1), none, true, .box (.t 0)⟩,
 ⟨(some 2), none, false, .mov (.k (.d (.bool false)))⟩])
 (.seq
 (.seq
 (.reg false [1, 37] [⟨(some 4), none, false, .fa 0 0 (.t 1)⟩,
 ⟨(some 5), none, false, .ld none (.t 4)⟩,
 ⟨(some 6), none, true, .call 56 [(.t 5)]⟩,
 ⟨(some 7), none, false, .un .not (.t 6)⟩,
 ⟨(some 8), none, false, .mov (.t 7)⟩,
 ⟨(some 9), (some (8, false)), false, .fa 1 1 (.t 1)⟩,
 ⟨(some 10), (some (8, false)), false, .ld none (.t 9)⟩,
 ⟨(some 11), (some (8, false)), false, .len false (.t 10)⟩,
 ⟨(some 12), (some (8, false)), false, .bin .gtr (.t 11) (.k (.d (.int .i64 6)))⟩,
 ⟨(some 13), none, false, .pick (.t 8) (.k (.d (.bool true))) (.t 12)⟩,
 ⟨(some 14), none, false, .mov (.t 13)⟩,
 ⟨(some 15), (some (14, false)), false, .fa 2 2 (.t 1)⟩,
 ⟨(some 16), (some (14, false)), false, .ld none (.t 15)⟩,
 ⟨(some 17), (some (14, false)), true, .call 44 [(.t 16), (.k (.d (.int .i64 0))), (.k (.d (.int .i64 999)))]⟩,
 ⟨(some 18), (some (14, false)), false, .un .not (.t 17)⟩,
 ⟨(some 19), none, false, .pick (.t 14) (.k (.d (.bool true))) (.t 18)⟩,
 ⟨(some 20), none, false, .mov (.t 19)⟩,
 ⟨(some 21), (some (20, false)), false, .fa 3 3 (.t 1)⟩,
 ⟨(some 22), (some (20, false)), false, .ld none (.t 21)⟩,
 ⟨(some 23), (some (20, false)), true, .call 44 [(.t 22), (.k (.d (.int .i64 0))), (.k (.d (.int .i64 999)))]⟩,
 ⟨(some 24), (some (20, false)), false, .un .not (.t 23)⟩,
 ⟨(some 25), none, false, .pick (.t 20) (.k (.d (.bool true))) (.t 24)⟩,
 ⟨(some 26), none, false, .mov (.t 25)⟩,
 ⟨(some 27), (some (26, false)), false, .fa 4 4 (.t 1)⟩,
 ⟨(some 28), (some (26, false)), false, .ld none (.t 27)⟩,
 ⟨(some 29), (some (26, false)), false, .len false (.t 28)⟩,
 ⟨(some 30), (some (26, false)), false, .bin .gtr (.t 29) (.k (.d (.int .i64 0)))⟩,
 ⟨(some 31), (some (26, false)), false, .mov (.t 30)⟩,
 ⟨(some 32), (some (31, true)), false, .fa 4 4 (.t 1)⟩,
 ⟨(some 33), (some (31, true)), false, .ld none (.t 32)⟩,
 ⟨(some 34), (some (31, true)), true, .call 57 [(.t 33)]⟩,
 ⟨(some 35), (some (31, true)), false, .un .not (.t 34)⟩,
 ⟨(some 36), (some (26, false)), false, .pick (.t 31) (.t 35) (.k (.d (.bool false)))⟩,
 ⟨(some 37), none, false, .pick (.t 26) (.k (.d (.bool true))) (.t 36)⟩])
 (.cond (.t 37)
 (.seq
 (.reg false [2] [⟨(some 2), none, false, .mov (.k (.d (.bool false)))⟩])
 .ret)
 .skip))
 (.seq
 (.seq
 (.reg false [1, 3] [⟨(some 3), none, false, .mov (.k (.d (.int .i64 0)))⟩])
 (.block 0
 (.loop
 (.seq
 (.seq
 (.reg false [1, 3, 42] [⟨(some 38), none, false, .mov (.t 3)⟩,
 ⟨(some 39), none, false, .fa 1 1 (.t 1)⟩,
 ⟨(some 40), none, false, .ld none (.t 39)⟩,
 ⟨(some 41), none, false, .len false (.t 40)⟩,
 ⟨(some 42), none, false, .bin .lss (.t 38) (.t 41)⟩])
 (.cond (.t 42)
 .skip
 (.exit 0)))
 (.seq
 (.block 1
 (.seq
 (.reg true [1, 3, 71] [⟨(some 45), none, false, .fa 1 1 (.t 1)⟩,
 ⟨(some 46), none, false, .ld none (.t 45)⟩,
 ⟨(some 47), none, false, .mov (.t 3)⟩,
 ⟨(some 48), none, false, .ia 4 (.t 46) (.t 47)⟩,
 ⟨(some 49), none, false, .ld (some 4) (.t 48)⟩,
 ⟨(some 50), none, false, .callP 58 [(.t 49)]⟩,
 ⟨(some 51), none, false, .un .not (.t 50)⟩,
 ⟨(some 52), none, false, .mov (.t 51)⟩,
 ⟨(some 53), (some (52, false)), false, .mov (.t 3)⟩,
 ⟨(some 54), (some (52, false)), false, .bin .gtr (.t 53) (.k (.d (.int .i64 0)))⟩,
 ⟨(some 55), (some (52, false)), false, .mov (.t 54)⟩,
 ⟨(some 56), (some (55, true)), false, .fa 1 1 (.t 1)⟩,
 ⟨(some 57), (some (55, true)), false, .ld none (.t 56)⟩,
 ⟨(some 58), (some (55, true)), false, .mov (.t 3)⟩,
 ⟨(some 59), (some (55, true)), false, .bin .sub (.t 58) (.k (.d (.int .i64 1)))⟩,
 ⟨(some 60), (some (55, true)), false, .ia 4 (.t 57) (.t 59)⟩,
 ⟨(some 61), (some (55, true)), false, .fa 0 0 (.t 60)⟩,
 ⟨(some 62), (some (55, true)), false, .ld none (.t 61)⟩,
 ⟨(some 63), (some (55, true)), false, .fa 1 1 (.t 1)⟩,
 ⟨(some 64), (some (55, true)), false, .ld none (.t 63)⟩,
 ⟨(some 65), (some (55, true)), false, .mov (.t 3)⟩,
 ⟨(some 66), (some (55, true)), false, .ia 4 (.t 64) (.t 65)⟩,
 ⟨(some 67), (some (55, true)), false, .fa 0 0 (.t 66)⟩,
 ⟨(some 68), (some (55, true)), false, .ld none (.t 67)⟩,
 ⟨(some 69), (some (55, true)), false, .bin .geq (.t 62) (.t 68)⟩,
 ⟨(some 70), (some (52, false)), false, .pick (.t 55) (.t 69) (.k (.d (.bool false)))⟩,
 ⟨(some 71), none, false, .pick (.t 52) (.k (.d (.bool true))) (.t 70)⟩])
 (.cond (.t 71)
 (.seq
 (.reg false [2] [⟨(some 2), none, false, .mov (.k (.d (.bool false)))⟩])
 .ret)
 .skip)))
 (.reg false [1, 3] [⟨(some 43), none, false, .mov (.t 3)⟩,
 ⟨(some 44), none, false, .bin .add (.t 43) (.k (.d (.int .i64 1)))⟩,
 ⟨(some 3), none, false, .mov (.t 44)⟩]))))))
 (.seq
 (.reg false [2] [⟨(some 2), none, false, .mov (.k (.d (.bool true)))⟩])
 .ret))))
theorem c30 : (Go.Proofs.Tryd.f30).body.bind (comp prog.P (1, (Go.Proofs.Tryd.f30).ntmps) lv30) = some m30 := by kernel_rfl
theorem r30 : resOK prog.P (Go.Proofs.Tryd.f30).results.toList = true := by kernel_rfl

/-- laws.toCaseS -/
def lv31 : List (Nat × List Nat) := [(0, [0]), (1, [0, 3]), (2, [0, 3, 4]), (3, [0, 3, 4, 11]), (4, [0, 3, 4]), (5, [0, 3, 4]), (6, [2])]
def m31 : MC :=
  (.seq
 (.reg false [0] [⟨(some 2), none, false, .mov (.k .nil)⟩])
 (.seq
 (.reg false [0, 3] [⟨(some 5), none, false, .mov (.t 0)⟩,
 ⟨(some 6), none, false, .len false (.t 5)⟩,
 ⟨(some 7), none, true, .mk 4 48 (.st (.cons (.int .i64 0) (.cons (.int .i64 0) (.cons (.int .i64 0) (.cons (.sl true 1 .nil) .nil))))) (.t 6)⟩,
 ⟨(some 3), none, false, .mov (.t 7)⟩])
 (.seq
 (.seq
 (.reg false [0, 3, 4] [⟨(some 4), none, false, .mov (.k (.d (.int .i64 0)))⟩])
 (.block 0
 (.loop
 (.seq
 (.seq
 (.reg false [0, 3, 4, 11] [⟨(some 8), none, false, .mov (.t 4)⟩,
 ⟨(some 9), none, false, .mov (.t 0)⟩,
 ⟨(some 10), none, false, .len false (.t 9)⟩,
 ⟨(some 11), none, false, .bin .lss (.t 8) (.t 10)⟩])
 (.cond (.t 11)
 .skip
 (.exit 0)))
 (.seq
 (.block 1
 (.reg false [0, 3, 4] [⟨(some 14), none, false, .mov (.t 3)⟩,
 ⟨(some 15), none, false, .mov (.t 4)⟩,
 ⟨(some 16), none, false, .mov (.t 0)⟩,
 ⟨(some 17), none, false, .mov (.t 4)⟩,
 ⟨(some 18), none, false, .ia 4 (.t 16) (.t 17)⟩,
 ⟨(some 19), none, false, .ld (some 4) (.t 18)⟩,
 ⟨(some 20), none, true, .call 59 [(.t 19)]⟩,
 ⟨(some 21), none, false, .ia 4 (.t 14) (.t 15)⟩,
 ⟨none, none, true, .st 4 (.t 21) (.t 20)⟩]))
 (.reg false [0, 3, 4] [⟨(some 12), none, false, .mov (.t 4)⟩,
 ⟨(some 13), none, false, .bin .add (.t 12) (.k (.d (.int .i64 1)))⟩,
 ⟨(some 4), none, false, .mov (.t 13)⟩]))))))
 (.seq
 (.reg false [2] [⟨(some 22), none, false, .mov (.t 3)⟩,
 ⟨(some 2), none, false, .mov (.t 22)⟩])
 .ret))))
theorem c31 : (Go.Proofs.Tryd.f31).body.bind (comp prog.P (1, (Go.Proofs.Tryd.f31).ntmps) lv31) = some m31 := by kernel_rfl
theorem r31 : resOK prog.P (Go.Proofs.Tryd.f31).results.toList = true := by kernel_rfl

/-- laws.toStringS -/
def lv32 : List (Nat × List Nat) := [(0, [0]), (1, [0, 3]), (2, [0, 3, 4]), (3, [0, 3, 4, 11]), (4, [0, 3, 4]), (5, [0, 3, 4]), (6, [2])]
def m32 : MC :=
  (.seq
 (.reg false [0] [⟨(some 2), none, false, .mov (.k .nil)⟩])
 (.seq
 (.reg false [0, 3] [⟨(some 5), none, false, .mov (.t 0)⟩,
 ⟨(some 6), none, false, .len false (.t 5)⟩,
 ⟨(some 7), none, true, .mk 1 16 (.str []) (.t 6)⟩,
 ⟨(some 3), none, false, .mov (.t 7)⟩])
 (.seq
 (.seq
 (.reg false [0, 3, 4] [⟨(some 4), none, false, .mov (.k (.d (.int .i64 0)))⟩])
 (.block 0
 (.loop
 (.seq
 (.seq
 (.reg false [0, 3, 4, 11] [⟨(some 8), none, false, .mov (.t 4)⟩,
 ⟨(some 9), none, false, .mov (.t 0)⟩,
 ⟨(some 10), none, false, .len false (.t 9)⟩,
 ⟨(some 11), none, false, .bin .lss (.t 8) (.t 10)⟩])
 (.cond (.t 11)
 .skip
 (.exit 0)))
 (.seq
 (.block 1
 (.reg false [0, 3, 4] [⟨(some 14), none, false, .mov (.t 3)⟩,
 ⟨(some 15), none, false, .mov (.t 4)⟩,
 ⟨(some 16), none, false, .mov (.t 0)⟩,
 ⟨(some 17), none, false, .mov (.t 4)⟩,
 ⟨(some 18), none, false, .ia 1 (.t 16) (.t 17)⟩,
 ⟨(some 19), none, false, .ld none (.t 18)⟩,
 ⟨(some 20), none, false, .ia 1 (.t 14) (.t 15)⟩,
 ⟨none, none, true, .st 1 (.t 20) (.t 19)⟩]))
 (.reg false [0, 3, 4] [⟨(some 12), none, false, .mov (.t 4)⟩,
 ⟨(some 13), none, false, .bin .add (.t 12) (.k (.d (.int .i64 1)))⟩,
 ⟨(some 4), none, false, .mov (.t 13)⟩]))))))
 (.seq
 (.reg false [2] [⟨(some 21), none, false, .mov (.t 3)⟩,
 ⟨(some 2), none, false, .mov (.t 21)⟩])
 .ret))))
theorem c32 : (Go.Proofs.Tryd.f32).body.bind (comp prog.P (1, (Go.Proofs.Tryd.f32).ntmps) lv32) = some m32 := by kernel_rfl
theorem r32 : resOK prog.P (Go.Proofs.Tryd.f32).results.toList = true := by kernel_rfl

/-- impl.isDay -/
def lv33 : List (Nat × List Nat) := [(0, [0]), (1, [2])]
def m33 : MC :=
  (.seq
 (.reg false [0] [⟨(some 2), none, false, .mov (.k (.d (.bool false)))⟩])
 (.seq
 (.reg false [2] [⟨(some 3), none, false, .mov (.t 0)⟩,
 ⟨(some 4), none, true, .call 34 [(.t 3), (.k (.d (.int .i64 0))), (.k (.d (.int .i64 20000)))]⟩,
 ⟨(some 2), none, false, .mov (.t 4)⟩])
 .ret))
theorem c33 : (Go.Proofs.Tryd.f33).body.bind (comp prog.P (1, (Go.Proofs.Tryd.f33).ntmps) lv33) = some m33 := by kernel_rfl
theorem r33 : resOK prog.P (Go.Proofs.Tryd.f33).results.toList = true := by kernel_rfl

/-- impl.within -/
def lv34 : List (Nat × List Nat) := [(0, [0, 1, 2]), (1, [6])]
def m34 : MC :=
  (.seq
 (.reg false [0, 1, 2] [⟨(some 6), none, false, .mov (.k (.d (.bool false)))⟩])
 (.seq
 (.reg false [6] [⟨(some 7), none, false, .mov (.t 1)⟩,
 ⟨(some 8), none, false, .mov (.t 0)⟩,
 ⟨(some 9), none, false, .bin .leq (.t 7) (.t 8)⟩,
 ⟨(some 10), none, false, .mov (.t 9)⟩,
 ⟨(some 11), (some (10, true)), false, .mov (.t 0)⟩,
 ⟨(some 12), (some (10, true)), false, .mov (.t 2)⟩,
 ⟨(some 13), (some (10, true)), false, .bin .leq (.t 11) (.t 12)⟩,
 ⟨(some 14), none, false, .pick (.t 10) (.t 13) (.k (.d (.bool false)))⟩,
 ⟨(some 6), none, false, .mov (.t 14)⟩])
 .ret))
theorem c34 : (Go.Proofs.Tryd.f34).body.bind (comp prog.P (3, (Go.Proofs.Tryd.f34).ntmps) lv34) = some m34 := by kernel_rfl
theorem r34 : resOK prog.P (Go.Proofs.Tryd.f34).results.toList = true := by kernel_rfl

/-- impl.IsLedger -/
def lv35 : List (Nat × List Nat) := [(0, [0]), (1, [2])]
def m35 : MC :=
  (.seq
 (.reg false [0] [⟨(some 2), none, false, .mov (.k (.d (.bool false)))⟩])
 (.seq
 (.reg false [2] [⟨(some 3), none, false, .mov (.t 0)⟩,
 ⟨(some 4), none, false, .len false (.t 3)⟩,
 ⟨(some 5), none, true, .call 34 [(.t 4), (.k (.d (.int .i64 1))), (.k (.d (.int .i64 8)))]⟩,
 ⟨(some 6), none, false, .mov (.t 5)⟩,
 ⟨(some 7), (some (6, true)), false, .mov (.t 0)⟩,
 ⟨(some 8), (some (6, true)), true, .call 60 [(.t 7), (.k (.d (.clo 61 .nil)))]⟩,
 ⟨(some 9), (some (6, true)), false, .un .not (.t 8)⟩,
 ⟨(some 10), none, false, .pick (.t 6) (.t 9) (.k (.d (.bool false)))⟩,
 ⟨(some 2), none, false, .mov (.t 10)⟩])
 .ret))
theorem c35 : (Go.Proofs.Tryd.f35).body.bind (comp prog.P (1, (Go.Proofs.Tryd.f35).ntmps) lv35) = some m35 := by kernel_rfl
theorem r35 : resOK prog.P (Go.Proofs.Tryd.f35).results.toList = true := by kernel_rfl

/-- impl.isCase -/
def lv36 : List (Nat × List Nat) := [(0, [1]), (1, [2])]
def m36 : MC :=
  (.seq
 (.reg false [1] [⟨(some 1), none, true, .box (.t 0)⟩,
 ⟨(some 2), none, false, .mov (.k (.d (.bool false)))⟩])
 (.seq
 (.reg false [2] [⟨(some 3), none, false, .fa 0 0 (.t 1)⟩,
 ⟨(some 4), none, false, .ld none (.t 3)⟩,
 ⟨(some 5), none, true, .call 63 [(.t 4)]⟩,
 ⟨(some 6), none, false, .mov (.t 5)⟩,
 ⟨(some 7), (some (6, true)), false, .fa 1 1 (.t 1)⟩,
 ⟨(some 8), (some (6, true)), false, .ld none (.t 7)⟩,
 ⟨(some 9), (some (6, true)), true, .call 64 [(.t 8)]⟩,
 ⟨(some 10), none, false, .pick (.t 6) (.t 9) (.k (.d (.bool false)))⟩,
 ⟨(some 11), none, false, .mov (.t 10)⟩,
 ⟨(some 12), (some (11, true)), false, .fa 2 2 (.t 1)⟩,
 ⟨(some 13), (some (11, true)), false, .ld none (.t 12)⟩,
 ⟨(some 14), (some (11, true)), true, .call 33 [(.t 13)]⟩,
 ⟨(some 15), none, false, .pick (.t 11) (.t 14) (.k (.d (.bool false)))⟩,
 ⟨(some 16), none, false, .mov (.t 15)⟩,
 ⟨(some 17), (some (16, true)), false, .fa 3 3 (.t 1)⟩,
 ⟨(some 18), (some (16, true)), false, .ld none (.t 17)⟩,
 ⟨(some 19), (some (16, true)), false, .len false (.t 18)⟩,
 ⟨(some 20), (some (16, true)), false, .bin .leq (.t 19) (.k (.d (.int .i64 5)))⟩,
 ⟨(some 21), none, false, .pick (.t 16) (.t 20) (.k (.d (.bool false)))⟩,
 ⟨(some 22), none, false, .mov (.t 21)⟩,
 ⟨(some 23), (some (22, true)), false, .fa 3 3 (.t 1)⟩,
 ⟨(some 24), (some (22, true)), false, .ld none (.t 23)⟩,
 ⟨(some 25), (some (22, true)), true, .call 65 [(.t 24)]⟩,
 ⟨(some 26), none, false, .pick (.t 22) (.t 25) (.k (.d (.bool false)))⟩,
 ⟨(some 27), none, false, .mov (.t 26)⟩,
 ⟨(some 28), (some (27, true)), false, .fa 3 3 (.t 1)⟩,
 ⟨(some 29), (some (27, true)), false, .ld none (.t 28)⟩,
 ⟨(some 30), (some (27, true)), true, .call 66 [(.t 29), (.k (.d (.clo 67 .nil)))]⟩,
 ⟨(some 31), (some (27, true)), false, .un .not (.t 30)⟩,
 ⟨(some 32), none, false, .pick (.t 27) (.t 31) (.k (.d (.bool false)))⟩,
 ⟨(some 2), none, false, .mov (.t 32)⟩])
 .ret))
theorem c36 : (Go.Proofs.Tryd.f36).body.bind (comp prog.P (1, (Go.Proofs.Tryd.f36).ntmps) lv36) = some m36 := by kernel_rfl
theorem r36 : resOK prog.P (Go.Proofs.Tryd.f36).results.toList = true := by kernel_rfl

/-- laws.eqCaseS -/
def lv37 : List (Nat × List Nat) := [(0, [0, 1]), (1, [0, 1, 10]), (2, [4]), (3, [0, 1, 5]), (4, [0, 1, 5, 14]), (5, [0, 1, 5]), (6, [0, 1, 5, 26]), (7, [4]), (8, [4])]
def m37 : MC :=
  (.seq
 (.reg false [0, 1] [⟨(some 4), none, false, .mov (.k (.d (.bool false)))⟩])
 (.seq
 (.seq
 (.reg false [0, 1, 10] [⟨(some 6), none, false, .mov (.t 0)⟩,
 ⟨(some 7), none, false, .len false (.t 6)⟩,
 ⟨(some 8), none, false, .mov (.t 1)⟩,
 ⟨(some 9), none, false, .len false (.t 8)⟩,
 ⟨(some 10), none, false, .bin .neq (.t 7) (.t 9)⟩])
 (.cond (.t 10)
 (.seq
 (.reg false [4] [⟨(some 4), none, false, .mov (.k (.d (.bool false)))⟩])
 .ret)
 .skip))
 (.seq
 (.seq
 (.reg false [0, 1, 5] [⟨(some 5), none, false, .mov (.k (.d (.int .i64 0)))⟩])
 (.block 0
 (.loop
 (.seq
 (.seq
 (.reg false [0, 1, 5, 14] [⟨(some 11), none, false, .mov (.t 5)⟩,
 ⟨(some 12), none, false, .mov (.t 0)⟩,
 ⟨(some 13), none, false, .len false (.t 12)⟩,
 ⟨(some 14), none, false, .bin .lss (.t 11) (.t 13)⟩])
 (.cond (.t 14)
 .skip
 (.exit 0)))
 (.seq
 (.block 1
 (.seq
 (.reg true [0, 1, 5, 26] [⟨(some 17), none, false, .mov (.t 0)⟩,
 ⟨(some 18), none, false, .mov (.t 5)⟩,
 ⟨(some 19), none, false, .ia 4 (.t 17) (.t 18)⟩,
 ⟨(some 20), none, false, .ld (some 4) (.t 19)⟩,
 ⟨(some 21), none, false, .mov (.t 1)⟩,
 ⟨(some 22), none, false, .mov (.t 5)⟩,
 ⟨(some 23), none, false, .ia 4 (.t 21) (.t 22)⟩,
 ⟨(some 24), none, false, .ld (some 4) (.t 23)⟩,
 ⟨(some 25), none, false, .callP 68 [(.t 20), (.t 24)]⟩,
 ⟨(some 26), none, false, .un .not (.t 25)⟩])
 (.cond (.t 26)
 (.seq
 (.reg false [4] [⟨(some 4), none, false, .mov (.k (.d (.bool false)))⟩])
 .ret)
 .skip)))
 (.reg false [0, 1, 5] [⟨(some 15), none, false, .mov (.t 5)⟩,
 ⟨(some 16), none, false, .bin .add (.t 15) (.k (.d (.int .i64 1)))⟩,
 ⟨(some 5), none, false, .mov (.t 16)⟩]))))))
 (.seq
 (.reg false [4] [⟨(some 4), none, false, .mov (.k (.d (.bool true)))⟩])
 .ret))))
theorem c37 : (Go.Proofs.Tryd.f37).body.bind (comp prog.P (2, (Go.Proofs.Tryd.f37).ntmps) lv37) = some m37 := by kernel_rfl
theorem r37 : resOK prog.P (Go.Proofs.Tryd.f37).results.toList = true := by kernel_rfl

/-- laws.eqStringS -/
def lv38 : List (Nat × List Nat) := [(0, [0, 1]), (1, [0, 1, 10]), (2, [4]), (3, [0, 1, 5]), (4, [0, 1, 5, 14]), (5, [0, 1, 5]), (6, [0, 1, 5, 25]), (7, [4]), (8, [4])]
def m38 : MC :=
  (.seq
 (.reg false [0, 1] [⟨(some 4), none, false, .mov (.k (.d (.bool false)))⟩])
 (.seq
 (.seq
 (.reg false [0, 1, 10] [⟨(some 6), none, false, .mov (.t 0)⟩,
 ⟨(some 7), none, false, .len false (.t 6)⟩,
 ⟨(some 8), none, false, .mov (.t 1)⟩,
 ⟨(some 9), none, false, .len false (.t 8)⟩,
 ⟨(some 10), none, false, .bin .neq (.t 7) (.t 9)⟩])
 (.cond (.t 10)
 (.seq
 (.reg false [4] [⟨(some 4), none, false, .mov (.k (.d (.bool false)))⟩])
 .ret)
 .skip))
 (.seq
 (.seq
 (.reg false [0, 1, 5] [⟨(some 5), none, false, .mov (.k (.d (.int .i64 0)))⟩])
 (.block 0
 (.loop
 (.seq
 (.seq
 (.reg false [0, 1, 5, 14] [⟨(some 11), none, false, .mov (.t 5)⟩,
 ⟨(some 12), none, false, .mov (.t 0)⟩,
 ⟨(some 13), none, false, .len false (.t 12)⟩,
 ⟨(some 14), none, false, .bin .lss (.t 11) (.t 13)⟩])
 (.cond (.t 14)
 .skip
 (.exit 0)))
 (.seq
 (.block 1
 (.seq
 (.reg true [0, 1, 5, 25] [⟨(some 17), none, false, .mov (.t 0)⟩,
 ⟨(some 18), none, false, .mov (.t 5)⟩,
 ⟨(some 19), none, false, .ia 1 (.t 17) (.t 18)⟩,
 ⟨(some 20), none, false, .ld none (.t 19)⟩,
 ⟨(some 21), none, false, .mov (.t 1)⟩,
 ⟨(some 22), none, false, .mov (.t 5)⟩,
 ⟨(some 23), none, false, .ia 1 (.t 21) (.t 22)⟩,
 ⟨(some 24), none, false, .ld none (.t 23)⟩,
 ⟨(some 25), none, false, .bin .neq (.t 20) (.t 24)⟩])
 (.cond (.t 25)
 (.seq
 (.reg false [4] [⟨(some 4), none, false, .mov (.k (.d (.bool false)))⟩])
 .ret)
 .skip)))
 (.reg false [0, 1, 5] [⟨(some 15), none, false, .mov (.t 5)⟩,
 ⟨(some 16), none, false, .bin .add (.t 15) (.k (.d (.int .i64 1)))⟩,
 ⟨(some 5), none, false, .mov (.t 16)⟩]))))))
 (.seq
 (.reg false [4] [⟨(some 4), none, false, .mov (.k (.d (.bool true)))⟩])
 .ret))))
theorem c38 : (Go.Proofs.Tryd.f38).body.bind (comp prog.P (2, (Go.Proofs.Tryd.f38).ntmps) lv38) = some m38 := by kernel_rfl
theorem r38 : resOK prog.P (Go.Proofs.Tryd.f38).results.toList = true := by kernel_rfl

/-- impl.casesBy -/
def lv39 : List (Nat × List Nat) := [(0, [1, 2]), (1, [1, 2, 5]), (2, [1, 5, 9, 10, 11]), (3, [1, 5, 9, 10, 11, 12]), (4, [1, 5, 7, 9, 10, 11]), (5, [1, 5, 7, 9, 10, 11, 17]), (6, [1, 5, 9, 10, 11]), (7, [1, 5, 9, 10, 11]), (8, [4])]
def m39 : MC :=
  (.seq
 (.reg false [1, 2] [⟨(some 2), none, true, .box (.t 0)⟩,
 ⟨(some 4), none, false, .mov (.k .nil)⟩])
 (.seq
 (.reg false [1, 2, 5] [⟨(some 5), none, false, .mov (.k .nil)⟩])
 (.seq
 (.seq
 (.reg false [1, 5, 9, 10, 11] [⟨(some 8), none, false, .fa 1 1 (.t 2)⟩,
 ⟨(some 9), none, false, .ld none (.t 8)⟩,
 ⟨(some 10), none, false, .len false (.t 9)⟩,
 ⟨(some 11), none, false, .mov (.k (.d (.int .i64 0)))⟩])
 (.block 0
 (.loop
 (.seq
 (.reg false [1, 5, 9, 10, 11, 12] [⟨(some 12), none, false, .bin .lss (.t 11) (.t 10)⟩])
 (.seq
 (.cond (.t 12)
 .skip
 (.exit 0))
 (.seq
 (.block 1
 (.seq
 (.reg false [1, 5, 7, 9, 10, 11] [⟨(some 13), none, false, .ia 4 (.t 9) (.t 11)⟩,
 ⟨(some 14), none, false, .ld (some 4) (.t 13)⟩,
 ⟨(some 7), none, true, .alloc (.st (.cons (.int .i64 0) (.cons (.int .i64 0) (.cons (.int .i64 0) (.cons (.sl true 1 .nil) .nil)))))⟩,
 ⟨none, none, true, .st 4 (.t 7) (.t 14)⟩])
 (.seq
 (.reg false [1, 5, 7, 9, 10, 11, 17] [⟨(some 15), none, false, .mov (.t 1)⟩,
 ⟨(some 16), none, false, .ld (some 4) (.t 7)⟩,
 ⟨(some 17), none, true, .callW (.t 15) [(.t 16)]⟩])
 (.cond (.t 17)
 (.reg false [1, 5, 9, 10, 11] [⟨(some 18), none, false, .mov (.t 5)⟩,
 ⟨(some 19), none, false, .fa 0 0 (.t 7)⟩,
 ⟨(some 20), none, false, .ld none (.t 19)⟩,
 ⟨(some 21), none, true, .bs 1 1 (.int .i64 0) [(0, (.t 20))]⟩,
 ⟨(some 22), none, true, .app 1 8 (.t 18) (.t 21)⟩,
 ⟨(some 5), none, false, .mov (.t 22)⟩])
 .skip))))
 (.reg false [1, 5, 9, 10, 11] [⟨(some 23), none, false, .bin .add (.t 11) (.k (.d (.int .i64 1)))⟩,
 ⟨(some 11), none, false, .mov (.t 23)⟩])))))))
 (.seq
 (.reg false [4] [⟨(some 24), none, false, .mov (.t 5)⟩,
 ⟨(some 4), none, false, .mov (.t 24)⟩])
 .ret))))
theorem c39 : (Go.Proofs.Tryd.f39).body.bind (comp prog.P (2, (Go.Proofs.Tryd.f39).ntmps) lv39) = some m39 := by kernel_rfl
theorem r39 : resOK prog.P (Go.Proofs.Tryd.f39).results.toList = true := by kernel_rfl

/-- laws.markCaseS -/
def lv41 : List (Nat × List Nat) := [(0, [0, 1]), (1, [0, 1, 5]), (2, [0, 1, 5, 9]), (3, [0, 1, 5]), (4, [0, 1, 5]), (5, [0, 1, 5]), (6, [0, 1, 5]), (7, [0, 1, 5]), (8, [0, 1, 5]), (9, [0, 1, 5]), (10, [0, 1, 5]), (11, [0, 4])]
def m41 : MC :=
  (.seq
 (.reg false [0, 1] [⟨(some 4), none, false, .mov (.k (.d (.int .i64 0)))⟩])
 (.seq
 (.seq
 (.reg false [0, 1, 5] [⟨(some 5), none, false, .mov (.k (.d (.int .i64 0)))⟩])
 (.block 0
 (.loop
 (.seq
 (.seq
 (.reg false [0, 1, 5, 9] [⟨(some 6), none, false, .mov (.t 5)⟩,
 ⟨(some 7), none, false, .mov (.t 0)⟩,
 ⟨(some 8), none, false, .len false (.t 7)⟩,
 ⟨(some 9), none, false, .bin .lss (.t 6) (.t 8)⟩])
 (.cond (.t 9)
 .skip
 (.exit 0)))
 (.seq
 (.block 1
 (.seq
 (.reg false [0, 1, 5] [⟨(some 12), none, false, .mov (.t 0)⟩,
 ⟨(some 13), none, false, .mov (.t 5)⟩,
 ⟨(some 14), none, false, .mov (.t 1)⟩,
 ⟨(some 15), none, false, .ia 4 (.t 12) (.t 13)⟩,
 ⟨(some 16), none, false, .fa 0 0 (.t 15)⟩,
 ⟨none, none, true, .st 1 (.t 16) (.t 14)⟩])
 (.seq
 (.reg false [0, 1, 5] [⟨(some 17), none, false, .mov (.t 1)⟩,
 ⟨(some 18), none, false, .bin .add (.t 17) (.k (.d (.int .i64 1)))⟩,
 ⟨(some 1), none, false, .mov (.t 18)⟩])
 (.seq
 (.reg false [0, 1, 5] [⟨(some 19), none, false, .mov (.t 0)⟩,
 ⟨(some 20), none, false, .mov (.t 5)⟩,
 ⟨(some 21), none, false, .mov (.t 1)⟩,
 ⟨(some 22), none, false, .ia 4 (.t 19) (.t 20)⟩,
 ⟨(some 23), none, false, .fa 1 1 (.t 22)⟩,
 ⟨none, none, true, .st 1 (.t 23) (.t 21)⟩])
 (.seq
 (.reg false [0, 1, 5] [⟨(some 24), none, false, .mov (.t 1)⟩,
 ⟨(some 25), none, false, .bin .add (.t 24) (.k (.d (.int .i64 1)))⟩,
 ⟨(some 1), none, false, .mov (.t 25)⟩])
 (.seq
 (.reg false [0, 1, 5] [⟨(some 26), none, false, .mov (.t 0)⟩,
 ⟨(some 27), none, false, .mov (.t 5)⟩,
 ⟨(some 28), none, false, .mov (.t 1)⟩,
 ⟨(some 29), none, false, .ia 4 (.t 26) (.t 27)⟩,
 ⟨(some 30), none, false, .fa 2 2 (.t 29)⟩,
 ⟨none, none, true, .st 1 (.t 30) (.t 28)⟩])
 (.seq
 (.reg false [0, 1, 5] [⟨(some 31), none, false, .mov (.t 1)⟩,
 ⟨(some 32), none, false, .bin .add (.t 31) (.k (.d (.int .i64 1)))⟩,
 ⟨(some 1), none, false, .mov (.t 32)⟩])
 (.reg false [0, 1, 5] [⟨(some 33), none, false, .mov (.t 0)⟩,
 ⟨(some 34), none, false, .mov (.t 5)⟩,
 ⟨(some 35), none, false, .ia 4 (.t 33) (.t 34)⟩,
 ⟨(some 36), none, false, .fa 3 3 (.t 35)⟩,
 ⟨(some 37), none, false, .ld none (.t 36)⟩,
 ⟨(some 38), none, false, .mov (.t 1)⟩,
 ⟨(some 39), none, true, .call 18 [(.t 37), (.t 38)]⟩,
 ⟨(some 1), none, false, .mov (.t 39)⟩]))))))))
 (.reg false [0, 1, 5] [⟨(some 10), none, false, .mov (.t 5)⟩,
 ⟨(some 11), none, false, .bin .add (.t 10) (.k (.d (.int .i64 1)))⟩,
 ⟨(some 5), none, false, .mov (.t 11)⟩]))))))
 (.seq
 (.reg false [0, 4] [⟨(some 40), none, false, .mov (.t 1)⟩,
 ⟨(some 4), none, false, .mov (.t 40)⟩])
 .ret)))
theorem c41 : (Go.Proofs.Tryd.f41).body.bind (comp prog.P (1, (Go.Proofs.Tryd.f41).ntmps) lv41) = some m41 := by kernel_rfl
theorem r41 : resOK prog.P (Go.Proofs.Tryd.f41).results.toList = true := by kernel_rfl

/-- laws.markStringS -/
def lv42 : List (Nat × List Nat) := [(0, [0, 1]), (1, [0, 1, 5]), (2, [0, 1, 5, 9]), (3, [0, 1, 5]), (4, [0, 1, 5]), (5, [0, 1, 5]), (6, [0, 4])]
def m42 : MC :=
  (.seq
 (.reg false [0, 1] [⟨(some 4), none, false, .mov (.k (.d (.int .i64 0)))⟩])
 (.seq
 (.seq
 (.reg false [0, 1, 5] [⟨(some 5), none, false, .mov (.k (.d (.int .i64 0)))⟩])
 (.block 0
 (.loop
 (.seq
 (.seq
 (.reg false [0, 1, 5, 9] [⟨(some 6), none, false, .mov (.t 5)⟩,
 ⟨(some 7), none, false, .mov (.t 0)⟩,
 ⟨(some 8), none, false, .len false (.t 7)⟩,
 ⟨(some 9), none, false, .bin .lss (.t 6) (.t 8)⟩])
 (.cond (.t 9)
 .skip
 (.exit 0)))
 (.seq
 (.block 1
 (.seq
 (.reg false [0, 1, 5] [⟨(some 12), none, false, .mov (.t 0)⟩,
 ⟨(some 13), none, false, .mov (.t 5)⟩,
 ⟨(some 14), none, false, .mov (.t 1)⟩,
 ⟨(some 15), none, true, .call 69 [(.t 14)]⟩,
 ⟨(some 16), none, false, .ia 1 (.t 12) (.t 13)⟩,
 ⟨none, none, true, .st 1 (.t 16) (.t 15)⟩])
 (.reg false [0, 1, 5] [⟨(some 17), none, false, .mov (.t 1)⟩,
 ⟨(some 18), none, false, .bin .add (.t 17) (.k (.d (.int .i64 1)))⟩,
 ⟨(some 1), none, false, .mov (.t 18)⟩])))
 (.reg false [0, 1, 5] [⟨(some 10), none, false, .mov (.t 5)⟩,
 ⟨(some 11), none, false, .bin .add (.t 10) (.k (.d (.int .i64 1)))⟩,
 ⟨(some 5), none, false, .mov (.t 11)⟩]))))))
 (.seq
 (.reg false [0, 4] [⟨(some 19), none, false, .mov (.t 1)⟩,
 ⟨(some 4), none, false, .mov (.t 19)⟩])
 .ret)))
theorem c42 : (Go.Proofs.Tryd.f42).body.bind (comp prog.P (1, (Go.Proofs.Tryd.f42).ntmps) lv42) = some m42 := by kernel_rfl
theorem r42 : resOK prog.P (Go.Proofs.Tryd.f42).results.toList = true := by kernel_rfl

end Go.Pe.Tryd
