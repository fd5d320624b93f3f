/-
The compact code of the functions that the law reaches, printed by gen.py, each with the proof that the machine's code is compiled to it.
-/
import Derived.Test.YtldadlpgliifdaaDoorPeC
import Derived.Lib.ItoaNum
import Derived.Lib.LaidTab
import Derived.Test.YtldadlpgliifdaaDoorProg
import Derived.KernelRfl
set_option maxRecDepth 100000
namespace Go.Pe.Tryd
open Go.Pe

/-- of the start-up memory it is asked that the library's table of powers of ten stands, that a number of the library's is there. -/
theorem tab_stab {P : Program} {n : String} {k : IntKind} {zs : List Int} {g : Nat} (hg : P.globalNamed n = some g) (w w' : World) (_ : w.heap.size ≤ w'.heap.size) (hk : ∀ b, b < w.heap.size → w'.heap[b]? = w.heap[b]?) (h : Go.Lib.TabIs P w n k zs) : Go.Lib.TabIs P w' n k zs := by
  unfold Go.Lib.TabIs World.var? at h ⊢
  rw [hg] at h ⊢
  simp only [Option.bind_some] at h ⊢
  by_cases hb : g < w.heap.size
  · rw [hk g hb]; exact h
  · rw [Array.getElem?_eq_none (by omega)] at h
    simp at h
theorem cell_stab (g : Nat) (w w' : World) (hk : ∀ b, b < w.heap.size → w'.heap[b]? = w.heap[b]?) (h : ∃ m, w.cell? ⟨g, 0, none⟩ = some (.int .i64 m)) : ∃ m, w'.cell? ⟨g, 0, none⟩ = some (.int .i64 m) := by
  obtain ⟨m, h⟩ := h
  by_cases hb : g < w.heap.size
  · refine ⟨m, ?_⟩
    unfold World.cell? at h ⊢
    rw [hk g hb]; exact h
  · have hn : w.heap[g]? = none := Array.getElem?_eq_none (by omega)
    simp [World.cell?, hn] at h
noncomputable def prog : PG := ⟨Go.Proofs.Tryd.prog, fun w => (Go.Lib.TabIs Go.Proofs.Tryd.prog w "internal/strconv.uint64pow10" .u64 Go.Lib.pow10Tab) ∧ (∃ m, w.cell? ⟨0, 0, none⟩ = some (.int .i64 m)), fun w w' hs hk h => ⟨tab_stab (show Go.Proofs.Tryd.prog.globalNamed "internal/strconv.uint64pow10" = some 1 by kernel_rfl) w w' hs hk h.1, cell_stab 0 w w' hk h.2⟩⟩
theorem tabOf {w : World} (h : prog.F w) : Go.Lib.TabIs Go.Proofs.Tryd.prog w "internal/strconv.uint64pow10" .u64 Go.Lib.pow10Tab := h.1
theorem maxOf {w : World} (h : prog.F w) : ∃ m, w.cell? ⟨0, 0, none⟩ = some (.int .i64 m) := h.2

theorem sz26 : sizeOfT prog.P 26 = some 3 := by kernel_rfl

theorem sz42 : sizeOfT prog.P 42 = some 2 := by kernel_rfl

/-- laws.FnCrashRecovery -/
def lv10 : List (Nat × List Nat) := [(0, [0]), (1, [0, 19]), (2, [2]), (3, [3, 4, 5]), (4, [3, 4, 5, 6, 7]), (5, [3, 6, 7, 8, 9]), (6, [3, 6, 7, 47]), (7, [2]), (8, [3, 6, 49]), (9, [2]), (10, [3, 6, 10, 11, 12]), (11, [3, 6, 10, 11, 12, 13]), (12, [3, 6, 10, 11, 12, 13, 15]), (13, [6, 10, 11, 13, 15, 89]), (14, [2]), (15, [6, 10, 11, 13, 15, 17]), (16, [6, 10, 11, 13, 15, 17, 93]), (17, [6, 10, 11, 13, 15, 17]), (18, [6, 10, 11, 13, 15, 17, 104]), (19, [2]), (20, [2])]
def m10 : MC :=
  (.seq
 (.reg false [0] [⟨(some 2), none, false, .mov (.k (.d (.bool false)))⟩])
 (.seq
 (.seq
 (.reg false [0, 19] [⟨(some 18), none, false, .mov (.t 0)⟩,
 ⟨(some 19), none, true, .call 29 [(.t 18)]⟩])
 (.cond (.t 19)
 (.seq
 (.reg false [2] [⟨(some 2), none, false, .mov (.k (.d (.bool true)))⟩])
 .ret)
 .skip))
 (.seq
 (.reg false [3, 4, 5] [⟨(some 21), none, false, .mov (.t 0)⟩,
 ⟨(some 22), none, true, .call 39 [(.t 21)]⟩,
 ⟨(some 20), none, false, .mov (.t 22)⟩,
 ⟨(some 23), none, false, .ext (.t 20) 0⟩,
 ⟨(some 24), none, false, .ext (.t 20) 1⟩,
 ⟨(some 25), none, false, .ext (.t 20) 2⟩,
 ⟨(some 3), none, true, .alloc (.st (.cons (.str []) (.cons (.str []) (.cons (.int .i64 0) .nil))))⟩,
 ⟨none, none, true, .st 3 (.t 3) (.t 23)⟩,
 ⟨(some 4), none, false, .mov (.t 24)⟩,
 ⟨(some 5), none, false, .mov (.t 25)⟩])
 (.seq
 (.reg false [3, 4, 5, 6, 7] [⟨(some 27), none, false, .ld (some 3) (.t 3)⟩,
 ⟨(some 28), none, false, .mov (.t 4)⟩,
 ⟨(some 29), none, false, .mov (.t 5)⟩,
 ⟨(some 30), none, true, .call 28 [(.t 27), (.t 28), (.t 29)]⟩,
 ⟨(some 26), none, false, .mov (.t 30)⟩,
 ⟨(some 31), none, false, .ext (.t 26) 0⟩,
 ⟨(some 32), none, false, .ext (.t 26) 1⟩,
 ⟨(some 6), none, false, .mov (.t 31)⟩,
 ⟨(some 7), none, false, .mov (.t 32)⟩])
 (.seq
 (.seq
 (.reg false [3, 6, 7, 8, 9] [⟨(some 34), none, false, .ld (some 3) (.t 3)⟩,
 ⟨(some 35), none, false, .mov (.t 4)⟩,
 ⟨(some 36), none, false, .mov (.t 5)⟩,
 ⟨(some 37), none, true, .call 27 [(.t 34), (.t 35), (.t 36)]⟩,
 ⟨(some 33), none, false, .mov (.t 37)⟩,
 ⟨(some 38), none, false, .ext (.t 33) 0⟩,
 ⟨(some 39), none, false, .ext (.t 33) 1⟩,
 ⟨(some 8), none, false, .mov (.t 38)⟩,
 ⟨(some 9), none, false, .mov (.t 39)⟩])
 (.seq
 (.reg false [3, 6, 7, 47] [⟨(some 40), none, false, .mov (.t 6)⟩,
 ⟨(some 41), none, false, .mov (.t 8)⟩,
 ⟨(some 42), none, false, .bin .neq (.t 40) (.t 41)⟩,
 ⟨(some 43), none, false, .mov (.t 42)⟩,
 ⟨(some 44), (some (43, false)), false, .mov (.t 7)⟩,
 ⟨(some 45), (some (43, false)), false, .mov (.t 9)⟩,
 ⟨(some 46), (some (43, false)), false, .bb .neq (.t 44) (.t 45)⟩,
 ⟨(some 47), none, false, .pick (.t 43) (.k (.d (.bool true))) (.t 46)⟩])
 (.cond (.t 47)
 (.seq
 (.reg false [2] [⟨(some 2), none, false, .mov (.k (.d (.bool false)))⟩])
 .ret)
 .skip)))
 (.seq
 (.seq
 (.reg false [3, 6, 49] [⟨(some 48), none, false, .mov (.t 7)⟩,
 ⟨(some 49), none, false, .un .not (.t 48)⟩])
 (.cond (.t 49)
 (.seq
 (.reg false [2] [⟨(some 50), none, false, .mov (.t 6)⟩,
 ⟨(some 51), none, false, .bin .eql (.t 50) (.k (.d (.str [])))⟩,
 ⟨(some 2), none, false, .mov (.t 51)⟩])
 .ret)
 .skip))
 (.seq
 (.reg false [3, 6, 10, 11, 12] [⟨(some 53), none, false, .mov (.t 6)⟩,
 ⟨(some 54), none, true, .call 34 [(.t 53)]⟩,
 ⟨(some 52), none, false, .mov (.t 54)⟩,
 ⟨(some 55), none, false, .ext (.t 52) 0⟩,
 ⟨(some 56), none, false, .ext (.t 52) 1⟩,
 ⟨(some 57), none, false, .ext (.t 52) 2⟩,
 ⟨(some 10), none, true, .alloc (.st (.cons (.str []) (.cons (.str []) (.cons (.int .i64 0) .nil))))⟩,
 ⟨none, none, true, .st 3 (.t 10) (.t 55)⟩,
 ⟨(some 11), none, false, .mov (.t 56)⟩,
 ⟨(some 12), none, false, .mov (.t 57)⟩])
 (.seq
 (.reg false [3, 6, 10, 11, 12, 13] [⟨(some 59), none, false, .ld (some 3) (.t 10)⟩,
 ⟨(some 60), none, true, .call 19 [(.t 59)]⟩,
 ⟨(some 58), none, false, .mov (.t 60)⟩,
 ⟨(some 61), none, false, .ext (.t 58) 0⟩,
 ⟨(some 62), none, false, .ext (.t 58) 1⟩,
 ⟨(some 13), none, false, .mov (.t 61)⟩,
 ⟨(some 14), none, false, .mov (.t 62)⟩])
 (.seq
 (.reg false [3, 6, 10, 11, 12, 13, 15] [⟨(some 64), none, false, .ld (some 3) (.t 3)⟩,
 ⟨(some 65), none, true, .call 18 [(.t 64)]⟩,
 ⟨(some 63), none, false, .mov (.t 65)⟩,
 ⟨(some 66), none, false, .ext (.t 63) 0⟩,
 ⟨(some 67), none, false, .ext (.t 63) 1⟩,
 ⟨(some 15), none, false, .mov (.t 66)⟩,
 ⟨(some 16), none, false, .mov (.t 67)⟩])
 (.seq
 (.seq
 (.reg false [6, 10, 11, 13, 15, 89] [⟨(some 68), none, false, .mov (.t 12)⟩,
 ⟨(some 69), none, false, .un .not (.t 68)⟩,
 ⟨(some 70), none, false, .mov (.t 69)⟩,
 ⟨(some 71), (some (70, false)), false, .mov (.t 11)⟩,
 ⟨(some 72), (some (70, false)), false, .mov (.t 6)⟩,
 ⟨(some 73), (some (70, false)), false, .len true (.t 72)⟩,
 ⟨(some 74), (some (70, false)), false, .bin .gtr (.t 71) (.t 73)⟩,
 ⟨(some 75), none, false, .pick (.t 70) (.k (.d (.bool true))) (.t 74)⟩,
 ⟨(some 76), none, false, .mov (.t 75)⟩,
 ⟨(some 77), (some (76, false)), false, .mov (.t 11)⟩,
 ⟨(some 78), (some (76, false)), false, .fa 0 0 (.t 3)⟩,
 ⟨(some 79), (some (76, false)), false, .ld none (.t 78)⟩,
 ⟨(some 80), (some (76, false)), false, .len true (.t 79)⟩,
 ⟨(some 81), (some (76, false)), false, .bin .lss (.t 77) (.t 80)⟩,
 ⟨(some 82), none, false, .pick (.t 76) (.k (.d (.bool true))) (.t 81)⟩,
 ⟨(some 83), none, false, .mov (.t 82)⟩,
 ⟨(some 84), (some (83, false)), false, .mov (.t 13)⟩,
 ⟨(some 85), (some (83, false)), false, .len false (.t 84)⟩,
 ⟨(some 86), (some (83, false)), false, .mov (.t 15)⟩,
 ⟨(some 87), (some (83, false)), false, .len false (.t 86)⟩,
 ⟨(some 88), (some (83, false)), false, .bin .gtr (.t 85) (.t 87)⟩,
 ⟨(some 89), none, false, .pick (.t 83) (.k (.d (.bool true))) (.t 88)⟩])
 (.cond (.t 89)
 (.seq
 (.reg false [2] [⟨(some 2), none, false, .mov (.k (.d (.bool false)))⟩])
 .ret)
 .skip))
 (.seq
 (.seq
 (.reg false [6, 10, 11, 13, 15, 17] [⟨(some 17), none, false, .mov (.k (.d (.int .i64 0)))⟩])
 (.block 0
 (.loop
 (.seq
 (.seq
 (.reg false [6, 10, 11, 13, 15, 17, 93] [⟨(some 90), none, false, .mov (.t 17)⟩,
 ⟨(some 91), none, false, .mov (.t 13)⟩,
 ⟨(some 92), none, false, .len false (.t 91)⟩,
 ⟨(some 93), none, false, .bin .lss (.t 90) (.t 92)⟩])
 (.cond (.t 93)
 .skip
 (.exit 0)))
 (.seq
 (.block 1
 (.seq
 (.reg true [6, 10, 11, 13, 15, 17, 104] [⟨(some 96), none, false, .mov (.t 13)⟩,
 ⟨(some 97), none, false, .mov (.t 17)⟩,
 ⟨(some 98), none, false, .ia 2 (.t 96) (.t 97)⟩,
 ⟨(some 99), none, false, .ld (some 2) (.t 98)⟩,
 ⟨(some 100), none, false, .mov (.t 15)⟩,
 ⟨(some 101), none, false, .mov (.t 17)⟩,
 ⟨(some 102), none, false, .ia 2 (.t 100) (.t 101)⟩,
 ⟨(some 103), none, false, .ld (some 2) (.t 102)⟩,
 ⟨(some 104), none, false, .sq true [2, 2] (.t 99) (.t 103)⟩])
 (.cond (.t 104)
 (.seq
 (.reg false [2] [⟨(some 2), none, false, .mov (.k (.d (.bool false)))⟩])
 .ret)
 .skip)))
 (.reg false [6, 10, 11, 13, 15, 17] [⟨(some 94), none, false, .mov (.t 17)⟩,
 ⟨(some 95), none, false, .bin .add (.t 94) (.k (.d (.int .i64 1)))⟩,
 ⟨(some 17), none, false, .mov (.t 95)⟩]))))))
 (.seq
 (.reg true [2] [⟨(some 105), none, false, .ld (some 3) (.t 10)⟩,
 ⟨(some 106), none, false, .callP 14 [(.t 105)]⟩,
 ⟨(some 107), none, false, .mov (.t 106)⟩,
 ⟨(some 108), (some (107, true)), false, .fa 0 0 (.t 10)⟩,
 ⟨(some 109), (some (107, true)), false, .ld none (.t 108)⟩,
 ⟨(some 110), (some (107, true)), false, .mov (.t 6)⟩,
 ⟨(some 111), (some (107, true)), false, .mov (.t 11)⟩,
 ⟨(some 112), (some (107, true)), false, .sls (.t 110) none (some (.t 111))⟩,
 ⟨(some 113), (some (107, true)), false, .bin .eql (.t 109) (.t 112)⟩,
 ⟨(some 114), none, false, .pick (.t 107) (.t 113) (.k (.d (.bool false)))⟩,
 ⟨(some 2), none, false, .mov (.t 114)⟩])
 .ret))))))))))))
theorem c10 : (Go.Proofs.Tryd.f10).body.bind (comp prog.P (1, (Go.Proofs.Tryd.f10).ntmps) lv10) = some m10 := by kernel_rfl
theorem r10 : resOK prog.P (Go.Proofs.Tryd.f10).results.toList = true := by kernel_rfl

/-- impl.IsValidLog -/
def lv14 : List (Nat × List Nat) := [(0, [1]), (1, [4]), (2, [2])]
def m14 : MC :=
  (.seq
 (.reg false [1] [⟨(some 1), none, true, .box (.t 0)⟩,
 ⟨(some 2), none, false, .mov (.k (.d (.bool false)))⟩])
 (.seq
 (.reg false [4] [⟨(some 6), none, false, .ld (some 3) (.t 1)⟩,
 ⟨(some 7), none, true, .call 41 [(.t 6)]⟩,
 ⟨(some 5), none, false, .mov (.t 7)⟩,
 ⟨(some 8), none, false, .ext (.t 5) 0⟩,
 ⟨(some 9), none, false, .ext (.t 5) 1⟩,
 ⟨(some 3), none, false, .mov (.t 8)⟩,
 ⟨(some 4), none, false, .mov (.t 9)⟩])
 (.seq
 (.reg false [2] [⟨(some 10), none, false, .mov (.t 4)⟩,
 ⟨(some 2), none, false, .mov (.t 10)⟩])
 .ret)))
theorem c14 : (Go.Proofs.Tryd.f14).body.bind (comp prog.P (1, (Go.Proofs.Tryd.f14).ntmps) lv14) = some m14 := by kernel_rfl
theorem r14 : resOK prog.P (Go.Proofs.Tryd.f14).results.toList = true := by kernel_rfl

/-- spec.SyncLog -/
def lv15 : List (Nat × List Nat) := [(0, [1, 2]), (1, [1, 2, 6]), (2, [2, 3]), (3, [2, 3])]
def m15 : MC :=
  (.seq
 (.reg false [1, 2] [⟨(some 1), none, true, .box (.t 0)⟩,
 ⟨(some 2), none, true, .alloc (.st (.cons (.str []) (.cons (.str []) (.cons (.int .i64 0) .nil))))⟩,
 ⟨(some 3), none, false, .mov (.k (.d (.bool false)))⟩])
 (.seq
 (.seq
 (.reg false [1, 2, 6] [⟨(some 4), none, false, .ld (some 3) (.t 1)⟩,
 ⟨(some 5), none, true, .call 40 [(.t 4)]⟩,
 ⟨(some 6), none, false, .un .not (.t 5)⟩])
 (.cond (.t 6)
 (.seq
 (.reg false [2, 3] [⟨(some 7), none, true, .bld (.cons (.str []) (.cons (.str []) (.cons (.int .i64 0) .nil))) []⟩,
 ⟨none, none, true, .st 3 (.t 2) (.t 7)⟩,
 ⟨(some 3), none, false, .mov (.k (.d (.bool false)))⟩])
 .ret)
 .skip))
 (.seq
 (.reg false [2, 3] [⟨(some 8), none, false, .fa 0 0 (.t 1)⟩,
 ⟨(some 9), none, false, .ld none (.t 8)⟩,
 ⟨(some 10), none, false, .fa 1 1 (.t 1)⟩,
 ⟨(some 11), none, false, .ld none (.t 10)⟩,
 ⟨(some 12), none, false, .bin .add (.t 9) (.t 11)⟩,
 ⟨(some 13), none, false, .fa 2 2 (.t 1)⟩,
 ⟨(some 14), none, false, .ld none (.t 13)⟩,
 ⟨(some 15), none, true, .bld (.cons (.str []) (.cons (.str []) (.cons (.int .i64 0) .nil))) [(0, (.t 12)), (2, (.t 14))]⟩,
 ⟨none, none, true, .st 3 (.t 2) (.t 15)⟩,
 ⟨(some 3), none, false, .mov (.k (.d (.bool true)))⟩])
 .ret)))
theorem c15 : (Go.Proofs.Tryd.f15).body.bind (comp prog.P (1, (Go.Proofs.Tryd.f15).ntmps) lv15) = some m15 := by kernel_rfl
theorem r15 : resOK prog.P (Go.Proofs.Tryd.f15).results.toList = true := by kernel_rfl

/-- spec.LogRecords -/
def lv18 : List (Nat × List Nat) := [(0, [1]), (1, [1, 8]), (2, [2, 3]), (3, [4]), (4, [2, 3])]
def m18 : MC :=
  (.seq
 (.reg false [1] [⟨(some 1), none, true, .box (.t 0)⟩,
 ⟨(some 2), none, false, .mov (.k .nil)⟩,
 ⟨(some 3), none, false, .mov (.k (.d (.bool false)))⟩])
 (.seq
 (.seq
 (.reg false [1, 8] [⟨(some 6), none, false, .ld (some 3) (.t 1)⟩,
 ⟨(some 7), none, true, .call 40 [(.t 6)]⟩,
 ⟨(some 8), none, false, .un .not (.t 7)⟩])
 (.cond (.t 8)
 (.seq
 (.reg false [2, 3] [⟨(some 9), none, true, .bs 2 0 (.st (.cons (.str []) (.cons (.str []) .nil))) []⟩,
 ⟨(some 2), none, false, .mov (.t 9)⟩,
 ⟨(some 3), none, false, .mov (.k (.d (.bool false)))⟩])
 .ret)
 .skip))
 (.seq
 (.reg false [4] [⟨(some 11), none, false, .fa 0 0 (.t 1)⟩,
 ⟨(some 12), none, false, .ld none (.t 11)⟩,
 ⟨(some 13), none, false, .fa 1 1 (.t 1)⟩,
 ⟨(some 14), none, false, .ld none (.t 13)⟩,
 ⟨(some 15), none, false, .bin .add (.t 12) (.t 14)⟩,
 ⟨(some 16), none, true, .call 42 [(.t 15)]⟩,
 ⟨(some 10), none, false, .mov (.t 16)⟩,
 ⟨(some 17), none, false, .ext (.t 10) 0⟩,
 ⟨(some 18), none, false, .ext (.t 10) 1⟩,
 ⟨(some 4), none, false, .mov (.t 17)⟩,
 ⟨(some 5), none, false, .mov (.t 18)⟩])
 (.seq
 (.reg false [2, 3] [⟨(some 19), none, false, .mov (.t 4)⟩,
 ⟨(some 2), none, false, .mov (.t 19)⟩,
 ⟨(some 3), none, false, .mov (.k (.d (.bool true)))⟩])
 .ret))))
theorem c18 : (Go.Proofs.Tryd.f18).body.bind (comp prog.P (1, (Go.Proofs.Tryd.f18).ntmps) lv18) = some m18 := by kernel_rfl
theorem r18 : resOK prog.P (Go.Proofs.Tryd.f18).results.toList = true := by kernel_rfl

/-- impl.LogRecords -/
def lv19 : List (Nat × List Nat) := [(0, [1]), (1, [4, 5]), (2, [4, 12]), (3, [2, 3]), (4, [2, 3])]
def m19 : MC :=
  (.seq
 (.reg false [1] [⟨(some 1), none, true, .box (.t 0)⟩,
 ⟨(some 2), none, false, .mov (.k .nil)⟩,
 ⟨(some 3), none, false, .mov (.k (.d (.bool false)))⟩])
 (.seq
 (.reg false [4, 5] [⟨(some 7), none, false, .ld (some 3) (.t 1)⟩,
 ⟨(some 8), none, true, .call 41 [(.t 7)]⟩,
 ⟨(some 6), none, false, .mov (.t 8)⟩,
 ⟨(some 9), none, false, .ext (.t 6) 0⟩,
 ⟨(some 10), none, false, .ext (.t 6) 1⟩,
 ⟨(some 4), none, false, .mov (.t 9)⟩,
 ⟨(some 5), none, false, .mov (.t 10)⟩])
 (.seq
 (.seq
 (.reg false [4, 12] [⟨(some 11), none, false, .mov (.t 5)⟩,
 ⟨(some 12), none, false, .un .not (.t 11)⟩])
 (.cond (.t 12)
 (.seq
 (.reg false [2, 3] [⟨(some 2), none, false, .mov (.k .nil)⟩,
 ⟨(some 3), none, false, .mov (.k (.d (.bool false)))⟩])
 .ret)
 .skip))
 (.seq
 (.reg false [2, 3] [⟨(some 13), none, false, .mov (.t 4)⟩,
 ⟨(some 2), none, false, .mov (.t 13)⟩,
 ⟨(some 3), none, false, .mov (.k (.d (.bool true)))⟩])
 .ret))))
theorem c19 : (Go.Proofs.Tryd.f19).body.bind (comp prog.P (1, (Go.Proofs.Tryd.f19).ntmps) lv19) = some m19 := by kernel_rfl
theorem r19 : resOK prog.P (Go.Proofs.Tryd.f19).results.toList = true := by kernel_rfl

/-- spec.AppendRecord -/
def lv24 : List (Nat × List Nat) := [(0, [2, 3, 4]), (1, [2, 3, 4, 13]), (2, [4, 5]), (3, [2, 3, 4, 17]), (4, [4, 5]), (5, [2, 4]), (6, [2, 4]), (7, [4, 5]), (1000005, [1, 8, 1, 0, 1, 1, 1, 2, 1, 3, 1, 4, 2, 5, 1, 6, 1, 7, 2, 8, 0])]
def m24 : MC :=
  (.seq
 (.reg false [2, 3, 4] [⟨(some 2), none, true, .box (.t 0)⟩,
 ⟨(some 3), none, true, .box (.t 1)⟩,
 ⟨(some 4), none, true, .alloc (.st (.cons (.str []) (.cons (.str []) (.cons (.int .i64 0) .nil))))⟩,
 ⟨(some 5), none, false, .mov (.k (.d (.int .i64 0)))⟩])
 (.seq
 (.seq
 (.reg false [2, 3, 4, 13] [⟨(some 6), none, false, .ld (some 3) (.t 2)⟩,
 ⟨(some 7), none, true, .call 40 [(.t 6)]⟩,
 ⟨(some 8), none, false, .un .not (.t 7)⟩,
 ⟨(some 9), none, false, .mov (.t 8)⟩,
 ⟨(some 10), (some (9, false)), false, .ld (some 2) (.t 3)⟩,
 ⟨(some 11), (some (9, false)), true, .call 45 [(.t 10)]⟩,
 ⟨(some 12), (some (9, false)), false, .un .not (.t 11)⟩,
 ⟨(some 13), none, false, .pick (.t 9) (.k (.d (.bool true))) (.t 12)⟩])
 (.cond (.t 13)
 (.seq
 (.reg false [4, 5] [⟨(some 14), none, false, .ld (some 3) (.t 2)⟩,
 ⟨none, none, true, .st 3 (.t 4) (.t 14)⟩,
 ⟨(some 5), none, false, .mov (.k (.d (.int .i64 1)))⟩])
 .ret)
 .skip))
 (.seq
 (.seq
 (.reg false [2, 3, 4, 17] [⟨(some 15), none, false, .fa 2 2 (.t 2)⟩,
 ⟨(some 16), none, false, .ld none (.t 15)⟩,
 ⟨(some 17), none, false, .bin .eql (.t 16) (.k (.d (.int .i64 60)))⟩])
 (.cond (.t 17)
 (.seq
 (.reg false [4, 5] [⟨(some 18), none, false, .ld (some 3) (.t 2)⟩,
 ⟨none, none, true, .st 3 (.t 4) (.t 18)⟩,
 ⟨(some 5), none, false, .mov (.k (.d (.int .i64 2)))⟩])
 .ret)
 .skip))
 (.seq
 (.any [8] [2, 4] (.q 0 ⟨(some 19), none, false, .fa 1 1 (.t 2)⟩ (.q 1 ⟨(some 20), none, false, .ld none (.t 19)⟩ (.q 2 ⟨(some 21), none, false, .fa 2 2 (.t 2)⟩ (.q 3 ⟨(some 22), none, false, .ld none (.t 21)⟩ (.q 4 ⟨(some 23), none, false, .ld (some 2) (.t 3)⟩ (.e 5 ⟨(some 24), none, true, .call 46 [(.t 22), (.t 23)]⟩ (.q 6 ⟨(some 25), none, false, .bin .add (.t 20) (.t 24)⟩ (.q 7 ⟨(some 26), none, false, .fa 1 1 (.t 2)⟩ (.e 8 ⟨none, none, true, .st 1 (.t 26) (.t 25)⟩ .done))))))))))
 (.seq
 (.reg false [2, 4] [⟨(some 27), none, false, .fa 2 2 (.t 2)⟩,
 ⟨(some 28), none, false, .ld none (.t 27)⟩,
 ⟨(some 29), none, false, .bin .add (.t 28) (.k (.d (.int .i64 1)))⟩,
 ⟨(some 30), none, false, .fa 2 2 (.t 2)⟩,
 ⟨none, none, true, .st 1 (.t 30) (.t 29)⟩])
 (.seq
 (.reg false [4, 5] [⟨(some 31), none, false, .ld (some 3) (.t 2)⟩,
 ⟨none, none, true, .st 3 (.t 4) (.t 31)⟩,
 ⟨(some 5), none, false, .mov (.k (.d (.int .i64 0)))⟩])
 .ret))))))
theorem c24 : (Go.Proofs.Tryd.f24).body.bind (comp prog.P (2, (Go.Proofs.Tryd.f24).ntmps) lv24) = some m24 := by kernel_rfl
theorem r24 : resOK prog.P (Go.Proofs.Tryd.f24).results.toList = true := by kernel_rfl

/-- spec.CrashLog -/
def lv27 : List (Nat × List Nat) := [(0, [1, 2, 3]), (1, [1, 2, 3, 19]), (2, [6, 7]), (3, [1, 2, 3, 8]), (4, [1, 3, 8, 29]), (5, [3, 8]), (6, [6, 7])]
def m27 : MC :=
  (.seq
 (.reg false [1, 2, 3] [⟨(some 3), none, true, .box (.t 0)⟩,
 ⟨(some 6), none, false, .mov (.k (.d (.str [])))⟩,
 ⟨(some 7), none, false, .mov (.k (.d (.bool false)))⟩])
 (.seq
 (.seq
 (.reg false [1, 2, 3, 19] [⟨(some 9), none, false, .ld (some 3) (.t 3)⟩,
 ⟨(some 10), none, true, .call 40 [(.t 9)]⟩,
 ⟨(some 11), none, false, .un .not (.t 10)⟩,
 ⟨(some 12), none, false, .mov (.t 11)⟩,
 ⟨(some 13), (some (12, false)), false, .mov (.t 1)⟩,
 ⟨(some 14), (some (12, false)), false, .fa 1 1 (.t 3)⟩,
 ⟨(some 15), (some (12, false)), false, .ld none (.t 14)⟩,
 ⟨(some 16), (some (12, false)), false, .len true (.t 15)⟩,
 ⟨(some 17), (some (12, false)), true, .call 47 [(.t 13), (.k (.d (.int .i64 0))), (.t 16)]⟩,
 ⟨(some 18), (some (12, false)), false, .un .not (.t 17)⟩,
 ⟨(some 19), none, false, .pick (.t 12) (.k (.d (.bool true))) (.t 18)⟩])
 (.cond (.t 19)
 (.seq
 (.reg false [6, 7] [⟨(some 6), none, false, .mov (.k (.d (.str [])))⟩,
 ⟨(some 7), none, false, .mov (.k (.d (.bool false)))⟩])
 .ret)
 .skip))
 (.seq
 (.reg false [1, 2, 3, 8] [⟨(some 20), none, false, .fa 1 1 (.t 3)⟩,
 ⟨(some 21), none, false, .ld none (.t 20)⟩,
 ⟨(some 22), none, false, .mov (.t 1)⟩,
 ⟨(some 23), none, false, .sls (.t 21) none (some (.t 22))⟩,
 ⟨(some 24), none, true, .s2b (.t 23)⟩,
 ⟨(some 8), none, false, .mov (.t 24)⟩])
 (.seq
 (.seq
 (.reg false [1, 3, 8, 29] [⟨(some 25), none, false, .mov (.t 2)⟩,
 ⟨(some 26), none, false, .mov (.t 25)⟩,
 ⟨(some 27), (some (26, true)), false, .mov (.t 1)⟩,
 ⟨(some 28), (some (26, true)), false, .bin .gtr (.t 27) (.k (.d (.int .i64 0)))⟩,
 ⟨(some 29), none, false, .pick (.t 26) (.t 28) (.k (.d (.bool false)))⟩])
 (.cond (.t 29)
 (.reg false [3, 8] [⟨(some 30), none, false, .mov (.t 8)⟩,
 ⟨(some 31), none, false, .mov (.t 1)⟩,
 ⟨(some 32), none, false, .bin .sub (.t 31) (.k (.d (.int .i64 1)))⟩,
 ⟨(some 33), none, false, .mov (.t 8)⟩,
 ⟨(some 34), none, false, .mov (.t 1)⟩,
 ⟨(some 35), none, false, .bin .sub (.t 34) (.k (.d (.int .i64 1)))⟩,
 ⟨(some 36), none, false, .ia 1 (.t 33) (.t 35)⟩,
 ⟨(some 37), none, false, .ld none (.t 36)⟩,
 ⟨(some 38), none, false, .bin .sub (.k (.d (.int .u8 255))) (.t 37)⟩,
 ⟨(some 39), none, false, .ia 1 (.t 30) (.t 32)⟩,
 ⟨none, none, true, .st 1 (.t 39) (.t 38)⟩])
 .skip))
 (.seq
 (.reg false [6, 7] [⟨(some 40), none, false, .fa 0 0 (.t 3)⟩,
 ⟨(some 41), none, false, .ld none (.t 40)⟩,
 ⟨(some 42), none, false, .mov (.t 8)⟩,
 ⟨(some 43), none, false, .b2s (.t 42)⟩,
 ⟨(some 44), none, false, .bin .add (.t 41) (.t 43)⟩,
 ⟨(some 6), none, false, .mov (.t 44)⟩,
 ⟨(some 7), none, false, .mov (.k (.d (.bool true)))⟩])
 .ret)))))
theorem c27 : (Go.Proofs.Tryd.f27).body.bind (comp prog.P (3, (Go.Proofs.Tryd.f27).ntmps) lv27) = some m27 := by kernel_rfl
theorem r27 : resOK prog.P (Go.Proofs.Tryd.f27).results.toList = true := by kernel_rfl

/-- impl.CrashLog -/
def lv28 : List (Nat × List Nat) := [(0, [1, 2, 3]), (1, [1, 2, 3, 19]), (2, [6, 7]), (3, [1, 2, 3, 8]), (4, [1, 3, 8, 29]), (5, [3, 8]), (6, [6, 7])]
def m28 : MC :=
  (.seq
 (.reg false [1, 2, 3] [⟨(some 3), none, true, .box (.t 0)⟩,
 ⟨(some 6), none, false, .mov (.k (.d (.str [])))⟩,
 ⟨(some 7), none, false, .mov (.k (.d (.bool false)))⟩])
 (.seq
 (.seq
 (.reg false [1, 2, 3, 19] [⟨(some 9), none, false, .ld (some 3) (.t 3)⟩,
 ⟨(some 10), none, true, .call 14 [(.t 9)]⟩,
 ⟨(some 11), none, false, .un .not (.t 10)⟩,
 ⟨(some 12), none, false, .mov (.t 11)⟩,
 ⟨(some 13), (some (12, false)), false, .mov (.t 1)⟩,
 ⟨(some 14), (some (12, false)), false, .fa 1 1 (.t 3)⟩,
 ⟨(some 15), (some (12, false)), false, .ld none (.t 14)⟩,
 ⟨(some 16), (some (12, false)), false, .len true (.t 15)⟩,
 ⟨(some 17), (some (12, false)), true, .call 48 [(.t 13), (.k (.d (.int .i64 0))), (.t 16)]⟩,
 ⟨(some 18), (some (12, false)), false, .un .not (.t 17)⟩,
 ⟨(some 19), none, false, .pick (.t 12) (.k (.d (.bool true))) (.t 18)⟩])
 (.cond (.t 19)
 (.seq
 (.reg false [6, 7] [⟨(some 6), none, false, .mov (.k (.d (.str [])))⟩,
 ⟨(some 7), none, false, .mov (.k (.d (.bool false)))⟩])
 .ret)
 .skip))
 (.seq
 (.reg false [1, 2, 3, 8] [⟨(some 20), none, false, .fa 1 1 (.t 3)⟩,
 ⟨(some 21), none, false, .ld none (.t 20)⟩,
 ⟨(some 22), none, false, .mov (.t 1)⟩,
 ⟨(some 23), none, false, .sls (.t 21) none (some (.t 22))⟩,
 ⟨(some 24), none, true, .s2b (.t 23)⟩,
 ⟨(some 8), none, false, .mov (.t 24)⟩])
 (.seq
 (.seq
 (.reg false [1, 3, 8, 29] [⟨(some 25), none, false, .mov (.t 2)⟩,
 ⟨(some 26), none, false, .mov (.t 25)⟩,
 ⟨(some 27), (some (26, true)), false, .mov (.t 1)⟩,
 ⟨(some 28), (some (26, true)), false, .bin .gtr (.t 27) (.k (.d (.int .i64 0)))⟩,
 ⟨(some 29), none, false, .pick (.t 26) (.t 28) (.k (.d (.bool false)))⟩])
 (.cond (.t 29)
 (.reg false [3, 8] [⟨(some 30), none, false, .mov (.t 8)⟩,
 ⟨(some 31), none, false, .mov (.t 1)⟩,
 ⟨(some 32), none, false, .bin .sub (.t 31) (.k (.d (.int .i64 1)))⟩,
 ⟨(some 33), none, false, .mov (.t 8)⟩,
 ⟨(some 34), none, false, .mov (.t 1)⟩,
 ⟨(some 35), none, false, .bin .sub (.t 34) (.k (.d (.int .i64 1)))⟩,
 ⟨(some 36), none, false, .ia 1 (.t 33) (.t 35)⟩,
 ⟨(some 37), none, false, .ld none (.t 36)⟩,
 ⟨(some 38), none, false, .bin .sub (.k (.d (.int .u8 255))) (.t 37)⟩,
 ⟨(some 39), none, false, .ia 1 (.t 30) (.t 32)⟩,
 ⟨none, none, true, .st 1 (.t 39) (.t 38)⟩])
 .skip))
 (.seq
 (.reg false [6, 7] [⟨(some 40), none, false, .fa 0 0 (.t 3)⟩,
 ⟨(some 41), none, false, .ld none (.t 40)⟩,
 ⟨(some 42), none, false, .mov (.t 8)⟩,
 ⟨(some 43), none, false, .b2s (.t 42)⟩,
 ⟨(some 44), none, false, .bin .add (.t 41) (.t 43)⟩,
 ⟨(some 6), none, false, .mov (.t 44)⟩,
 ⟨(some 7), none, false, .mov (.k (.d (.bool true)))⟩])
 .ret)))))
theorem c28 : (Go.Proofs.Tryd.f28).body.bind (comp prog.P (3, (Go.Proofs.Tryd.f28).ntmps) lv28) = some m28 := by kernel_rfl
theorem r28 : resOK prog.P (Go.Proofs.Tryd.f28).results.toList = true := by kernel_rfl

/-- laws.vBig -/
def lv29 : List (Nat × List Nat) := [(0, [0]), (1, [2])]
def m29 : MC :=
  (.seq
 (.reg false [0] [⟨(some 2), none, false, .mov (.k (.d (.bool false)))⟩])
 (.seq
 (.reg false [2] [⟨(some 3), none, false, .mov (.t 0)⟩,
 ⟨(some 4), none, false, .len false (.t 3)⟩,
 ⟨(some 5), none, false, .bin .gtr (.t 4) (.k (.d (.int .i64 65536)))⟩,
 ⟨(some 2), none, false, .mov (.t 5)⟩])
 .ret))
theorem c29 : (Go.Proofs.Tryd.f29).body.bind (comp prog.P (1, (Go.Proofs.Tryd.f29).ntmps) lv29) = some m29 := by kernel_rfl
theorem r29 : resOK prog.P (Go.Proofs.Tryd.f29).results.toList = true := by kernel_rfl

/-- impl.EncodeRecord -/
def lv31 : List (Nat × List Nat) := [(0, [0, 3]), (1, [0, 3, 15]), (2, [4, 5]), (3, [6, 7]), (4, [4, 5])]
def m31 : MC :=
  (.seq
 (.reg false [0, 3] [⟨(some 3), none, true, .box (.t 1)⟩,
 ⟨(some 4), none, false, .mov (.k (.d (.str [])))⟩,
 ⟨(some 5), none, false, .mov (.k (.d (.bool false)))⟩])
 (.seq
 (.seq
 (.reg false [0, 3, 15] [⟨(some 8), none, false, .mov (.t 0)⟩,
 ⟨(some 9), none, true, .call 48 [(.t 8), (.k (.d (.int .i64 0))), (.k (.d (.int .i64 59)))]⟩,
 ⟨(some 10), none, false, .un .not (.t 9)⟩,
 ⟨(some 11), none, false, .mov (.t 10)⟩,
 ⟨(some 12), (some (11, false)), false, .ld (some 2) (.t 3)⟩,
 ⟨(some 13), (some (11, false)), true, .call 37 [(.t 12)]⟩,
 ⟨(some 14), (some (11, false)), false, .un .not (.t 13)⟩,
 ⟨(some 15), none, false, .pick (.t 11) (.k (.d (.bool true))) (.t 14)⟩])
 (.cond (.t 15)
 (.seq
 (.reg false [4, 5] [⟨(some 4), none, false, .mov (.k (.d (.str [])))⟩,
 ⟨(some 5), none, false, .mov (.k (.d (.bool false)))⟩])
 .ret)
 .skip))
 (.seq
 (.reg true [6, 7] [⟨(some 17), none, false, .mov (.t 0)⟩,
 ⟨(some 18), none, false, .callP 52 [(.t 17)]⟩,
 ⟨(some 19), none, false, .bin .add (.t 18) (.k (.d (.str [32])))⟩,
 ⟨(some 20), none, false, .fa 0 0 (.t 3)⟩,
 ⟨(some 21), none, false, .ld none (.t 20)⟩,
 ⟨(some 22), none, false, .bin .add (.t 19) (.t 21)⟩,
 ⟨(some 23), none, false, .bin .add (.t 22) (.k (.d (.str [64])))⟩,
 ⟨(some 24), none, false, .fa 1 1 (.t 3)⟩,
 ⟨(some 25), none, false, .ld none (.t 24)⟩,
 ⟨(some 26), none, false, .bin .add (.t 23) (.t 25)⟩,
 ⟨(some 27), none, false, .callP 51 [(.t 26)]⟩,
 ⟨(some 16), none, false, .mov (.t 27)⟩,
 ⟨(some 28), none, false, .ext (.t 16) 0⟩,
 ⟨(some 29), none, false, .ext (.t 16) 1⟩,
 ⟨(some 6), none, false, .mov (.t 28)⟩,
 ⟨(some 7), none, false, .mov (.t 29)⟩])
 (.seq
 (.reg false [4, 5] [⟨(some 30), none, false, .mov (.t 6)⟩,
 ⟨(some 31), none, false, .bin .add (.t 30) (.k (.d (.str [10])))⟩,
 ⟨(some 32), none, false, .mov (.t 7)⟩,
 ⟨(some 4), none, false, .mov (.t 31)⟩,
 ⟨(some 5), none, false, .mov (.t 32)⟩])
 .ret))))
theorem c31 : (Go.Proofs.Tryd.f31).body.bind (comp prog.P (2, (Go.Proofs.Tryd.f31).ntmps) lv31) = some m31 := by kernel_rfl
theorem r31 : resOK prog.P (Go.Proofs.Tryd.f31).results.toList = true := by kernel_rfl

/-- impl.RecoverLog -/
def lv34 : List (Nat × List Nat) := [(0, [0, 2]), (1, [0, 2, 9]), (2, [2, 3, 4]), (3, [0, 2, 5, 6]), (4, [2, 3, 4])]
def m34 : MC :=
  (.seq
 (.reg false [0, 2] [⟨(some 2), none, true, .alloc (.st (.cons (.str []) (.cons (.str []) (.cons (.int .i64 0) .nil))))⟩,
 ⟨(some 3), none, false, .mov (.k (.d (.int .i64 0)))⟩,
 ⟨(some 4), none, false, .mov (.k (.d (.bool false)))⟩])
 (.seq
 (.seq
 (.reg false [0, 2, 9] [⟨(some 7), none, false, .mov (.t 0)⟩,
 ⟨(some 8), none, false, .len true (.t 7)⟩,
 ⟨(some 9), none, false, .bin .gtr (.t 8) (.k (.d (.int .i64 30000)))⟩])
 (.cond (.t 9)
 (.seq
 (.reg false [2, 3, 4] [⟨(some 10), none, true, .bld (.cons (.str []) (.cons (.str []) (.cons (.int .i64 0) .nil))) []⟩,
 ⟨none, none, true, .st 3 (.t 2) (.t 10)⟩,
 ⟨(some 3), none, false, .mov (.k (.d (.int .i64 0)))⟩,
 ⟨(some 4), none, false, .mov (.k (.d (.bool false)))⟩])
 .ret)
 .skip))
 (.seq
 (.reg false [0, 2, 5, 6] [⟨(some 12), none, false, .mov (.t 0)⟩,
 ⟨(some 13), none, true, .call 57 [(.t 12)]⟩,
 ⟨(some 11), none, false, .mov (.t 13)⟩,
 ⟨(some 14), none, false, .ext (.t 11) 0⟩,
 ⟨(some 15), none, false, .ext (.t 11) 1⟩,
 ⟨(some 5), none, false, .mov (.t 14)⟩,
 ⟨(some 6), none, false, .mov (.t 15)⟩])
 (.seq
 (.reg false [2, 3, 4] [⟨(some 16), none, false, .mov (.t 0)⟩,
 ⟨(some 17), none, false, .mov (.t 6)⟩,
 ⟨(some 18), none, false, .sls (.t 16) none (some (.t 17))⟩,
 ⟨(some 19), none, false, .mov (.t 5)⟩,
 ⟨(some 20), none, false, .len false (.t 19)⟩,
 ⟨(some 21), none, true, .bld (.cons (.str []) (.cons (.str []) (.cons (.int .i64 0) .nil))) [(0, (.t 18)), (2, (.t 20))]⟩,
 ⟨(some 22), none, false, .mov (.t 6)⟩,
 ⟨none, none, true, .st 3 (.t 2) (.t 21)⟩,
 ⟨(some 3), none, false, .mov (.t 22)⟩,
 ⟨(some 4), none, false, .mov (.k (.d (.bool true)))⟩])
 .ret))))
theorem c34 : (Go.Proofs.Tryd.f34).body.bind (comp prog.P (1, (Go.Proofs.Tryd.f34).ntmps) lv34) = some m34 := by kernel_rfl
theorem r34 : resOK prog.P (Go.Proofs.Tryd.f34).results.toList = true := by kernel_rfl

/-- impl.IsValidRecord -/
def lv37 : List (Nat × List Nat) := [(0, [1]), (1, [2])]
def m37 : MC :=
  (.seq
 (.reg false [1] [⟨(some 1), none, true, .box (.t 0)⟩,
 ⟨(some 2), none, false, .mov (.k (.d (.bool false)))⟩])
 (.seq
 (.reg false [2] [⟨(some 3), none, false, .fa 0 0 (.t 1)⟩,
 ⟨(some 4), none, false, .ld none (.t 3)⟩,
 ⟨(some 5), none, false, .len true (.t 4)⟩,
 ⟨(some 6), none, true, .call 48 [(.t 5), (.k (.d (.int .i64 1))), (.k (.d (.int .i64 160)))]⟩,
 ⟨(some 7), none, false, .mov (.t 6)⟩,
 ⟨(some 8), (some (7, true)), false, .fa 1 1 (.t 1)⟩,
 ⟨(some 9), (some (7, true)), false, .ld none (.t 8)⟩,
 ⟨(some 10), (some (7, true)), false, .len true (.t 9)⟩,
 ⟨(some 11), (some (7, true)), false, .bin .leq (.t 10) (.k (.d (.int .i64 200)))⟩,
 ⟨(some 12), none, false, .pick (.t 7) (.t 11) (.k (.d (.bool false)))⟩,
 ⟨(some 13), none, false, .mov (.t 12)⟩,
 ⟨(some 14), (some (13, true)), false, .fa 0 0 (.t 1)⟩,
 ⟨(some 15), (some (13, true)), false, .ld none (.t 14)⟩,
 ⟨(some 16), (some (13, true)), true, .call 59 [(.t 15)]⟩,
 ⟨(some 17), none, false, .pick (.t 13) (.t 16) (.k (.d (.bool false)))⟩,
 ⟨(some 18), none, false, .mov (.t 17)⟩,
 ⟨(some 19), (some (18, true)), false, .fa 1 1 (.t 1)⟩,
 ⟨(some 20), (some (18, true)), false, .ld none (.t 19)⟩,
 ⟨(some 21), (some (18, true)), true, .call 59 [(.t 20)]⟩,
 ⟨(some 22), none, false, .pick (.t 18) (.t 21) (.k (.d (.bool false)))⟩,
 ⟨(some 23), none, false, .mov (.t 22)⟩,
 ⟨(some 24), (some (23, true)), false, .fa 0 0 (.t 1)⟩,
 ⟨(some 25), (some (23, true)), false, .ld none (.t 24)⟩,
 ⟨(some 26), (some (23, true)), true, .call 60 [(.t 25), (.k (.d (.str [64])))]⟩,
 ⟨(some 27), (some (23, true)), false, .un .not (.t 26)⟩,
 ⟨(some 28), none, false, .pick (.t 23) (.t 27) (.k (.d (.bool false)))⟩,
 ⟨(some 2), none, false, .mov (.t 28)⟩])
 .ret))
theorem c37 : (Go.Proofs.Tryd.f37).body.bind (comp prog.P (1, (Go.Proofs.Tryd.f37).ntmps) lv37) = some m37 := by kernel_rfl
theorem r37 : resOK prog.P (Go.Proofs.Tryd.f37).results.toList = true := by kernel_rfl

/-- spec.DrawCrashLog -/
def lv39 : List (Nat × List Nat) := [(0, [0, 2]), (1, [2, 5]), (2, [2, 5, 6]), (3, [2, 5, 6, 7]), (4, [2, 3, 4]), (1000004, [3, 4, 5, 6, 1, 0, 1, 1, 1, 2, 2, 3, 2, 4, 2, 5, 2, 6, 0])]
def m39 : MC :=
  (.seq
 (.reg false [0, 2] [⟨(some 2), none, true, .alloc (.st (.cons (.str []) (.cons (.str []) (.cons (.int .i64 0) .nil))))⟩,
 ⟨(some 3), none, false, .mov (.k (.d (.int .i64 0)))⟩,
 ⟨(some 4), none, false, .mov (.k (.d (.bool false)))⟩])
 (.seq
 (.reg false [2, 5] [⟨(some 8), none, false, .mov (.t 0)⟩,
 ⟨(some 9), none, true, .bld (.cons (.sl true 1 .nil) (.cons (.int .i64 0) (.cons (.int .u64 0) .nil))) [(0, (.t 8))]⟩,
 ⟨(some 10), none, true, .box (.t 9)⟩,
 ⟨(some 5), none, false, .mov (.t 10)⟩])
 (.seq
 (.reg false [2, 5, 6] [⟨(some 11), none, false, .mov (.t 5)⟩,
 ⟨(some 12), none, true, .call 58 [(.t 11)]⟩,
 ⟨(some 6), none, true, .alloc (.st (.cons (.str []) (.cons (.str []) (.cons (.int .i64 0) .nil))))⟩,
 ⟨none, none, true, .st 3 (.t 6) (.t 12)⟩])
 (.seq
 (.reg false [2, 5, 6, 7] [⟨(some 13), none, false, .mov (.t 5)⟩,
 ⟨(some 14), none, false, .fa 1 1 (.t 6)⟩,
 ⟨(some 15), none, false, .ld none (.t 14)⟩,
 ⟨(some 16), none, false, .len true (.t 15)⟩,
 ⟨(some 17), none, false, .bin .add (.t 16) (.k (.d (.int .i64 3)))⟩,
 ⟨(some 18), none, true, .call 54 [(.t 13), (.t 17)]⟩,
 ⟨(some 19), none, false, .bin .sub (.t 18) (.k (.d (.int .i64 1)))⟩,
 ⟨(some 7), none, false, .mov (.t 19)⟩])
 (.seq
 (.any [4, 5, 6] [2, 3, 4] (.q 0 ⟨(some 20), none, false, .ld (some 3) (.t 6)⟩ (.q 1 ⟨(some 21), none, false, .mov (.t 7)⟩ (.q 2 ⟨(some 22), none, false, .mov (.t 5)⟩ (.e 3 ⟨(some 23), none, true, .call 56 [(.t 22), (.k (.d (.int .i64 2)))]⟩ (.e 4 ⟨none, none, true, .st 3 (.t 2) (.t 20)⟩ (.e 5 ⟨(some 3), none, false, .mov (.t 21)⟩ (.e 6 ⟨(some 4), none, false, .mov (.t 23)⟩ .done))))))))
 .ret)))))
theorem c39 : (Go.Proofs.Tryd.f39).body.bind (comp prog.P (1, (Go.Proofs.Tryd.f39).ntmps) lv39) = some m39 := by kernel_rfl
theorem r39 : resOK prog.P (Go.Proofs.Tryd.f39).results.toList = true := by kernel_rfl

/-- spec.l27Log -/
def lv40 : List (Nat × List Nat) := [(0, [1]), (1, [1, 14]), (2, [2]), (3, [1, 3, 4]), (4, [1, 3, 4, 6]), (5, [2])]
def m40 : MC :=
  (.seq
 (.reg false [1] [⟨(some 1), none, true, .box (.t 0)⟩,
 ⟨(some 2), none, false, .mov (.k (.d (.bool false)))⟩])
 (.seq
 (.seq
 (.reg false [1, 14] [⟨(some 7), none, false, .fa 0 0 (.t 1)⟩,
 ⟨(some 8), none, false, .ld none (.t 7)⟩,
 ⟨(some 9), none, false, .len true (.t 8)⟩,
 ⟨(some 10), none, false, .fa 1 1 (.t 1)⟩,
 ⟨(some 11), none, false, .ld none (.t 10)⟩,
 ⟨(some 12), none, false, .len true (.t 11)⟩,
 ⟨(some 13), none, false, .bin .add (.t 9) (.t 12)⟩,
 ⟨(some 14), none, false, .bin .gtr (.t 13) (.k (.d (.int .i64 30000)))⟩])
 (.cond (.t 14)
 (.seq
 (.reg false [2] [⟨(some 2), none, false, .mov (.k (.d (.bool false)))⟩])
 .ret)
 .skip))
 (.seq
 (.reg false [1, 3, 4] [⟨(some 16), none, false, .fa 0 0 (.t 1)⟩,
 ⟨(some 17), none, false, .ld none (.t 16)⟩,
 ⟨(some 18), none, false, .fa 1 1 (.t 1)⟩,
 ⟨(some 19), none, false, .ld none (.t 18)⟩,
 ⟨(some 20), none, false, .bin .add (.t 17) (.t 19)⟩,
 ⟨(some 21), none, true, .call 42 [(.t 20)]⟩,
 ⟨(some 15), none, false, .mov (.t 21)⟩,
 ⟨(some 22), none, false, .ext (.t 15) 0⟩,
 ⟨(some 23), none, false, .ext (.t 15) 1⟩,
 ⟨(some 3), none, false, .mov (.t 22)⟩,
 ⟨(some 4), none, false, .mov (.t 23)⟩])
 (.seq
 (.reg false [1, 3, 4, 6] [⟨(some 25), none, false, .fa 0 0 (.t 1)⟩,
 ⟨(some 26), none, false, .ld none (.t 25)⟩,
 ⟨(some 27), none, true, .call 42 [(.t 26)]⟩,
 ⟨(some 24), none, false, .mov (.t 27)⟩,
 ⟨(some 28), none, false, .ext (.t 24) 0⟩,
 ⟨(some 29), none, false, .ext (.t 24) 1⟩,
 ⟨(some 5), none, false, .mov (.t 28)⟩,
 ⟨(some 6), none, false, .mov (.t 29)⟩])
 (.seq
 (.reg false [2] [⟨(some 30), none, false, .mov (.t 4)⟩,
 ⟨(some 31), none, false, .fa 0 0 (.t 1)⟩,
 ⟨(some 32), none, false, .ld none (.t 31)⟩,
 ⟨(some 33), none, false, .len true (.t 32)⟩,
 ⟨(some 34), none, false, .fa 1 1 (.t 1)⟩,
 ⟨(some 35), none, false, .ld none (.t 34)⟩,
 ⟨(some 36), none, false, .len true (.t 35)⟩,
 ⟨(some 37), none, false, .bin .add (.t 33) (.t 36)⟩,
 ⟨(some 38), none, false, .bin .eql (.t 30) (.t 37)⟩,
 ⟨(some 39), none, false, .mov (.t 38)⟩,
 ⟨(some 40), (some (39, true)), false, .mov (.t 6)⟩,
 ⟨(some 41), (some (39, true)), false, .fa 0 0 (.t 1)⟩,
 ⟨(some 42), (some (39, true)), false, .ld none (.t 41)⟩,
 ⟨(some 43), (some (39, true)), false, .len true (.t 42)⟩,
 ⟨(some 44), (some (39, true)), false, .bin .eql (.t 40) (.t 43)⟩,
 ⟨(some 45), none, false, .pick (.t 39) (.t 44) (.k (.d (.bool false)))⟩,
 ⟨(some 46), none, false, .mov (.t 45)⟩,
 ⟨(some 47), (some (46, true)), false, .mov (.t 3)⟩,
 ⟨(some 48), (some (46, true)), false, .len false (.t 47)⟩,
 ⟨(some 49), (some (46, true)), false, .fa 2 2 (.t 1)⟩,
 ⟨(some 50), (some (46, true)), false, .ld none (.t 49)⟩,
 ⟨(some 51), (some (46, true)), false, .bin .eql (.t 48) (.t 50)⟩,
 ⟨(some 52), none, false, .pick (.t 46) (.t 51) (.k (.d (.bool false)))⟩,
 ⟨(some 2), none, false, .mov (.t 52)⟩])
 .ret)))))
theorem c40 : (Go.Proofs.Tryd.f40).body.bind (comp prog.P (1, (Go.Proofs.Tryd.f40).ntmps) lv40) = some m40 := by kernel_rfl
theorem r40 : resOK prog.P (Go.Proofs.Tryd.f40).results.toList = true := by kernel_rfl

/-- impl.recordsOf -/
def lv41 : List (Nat × List Nat) := [(0, [1]), (1, [1, 4]), (2, [1, 4, 5, 6]), (3, [1, 4, 5, 6, 8]), (4, [2, 3])]
def m41 : MC :=
  (.seq
 (.reg false [1] [⟨(some 1), none, true, .box (.t 0)⟩,
 ⟨(some 2), none, false, .mov (.k .nil)⟩,
 ⟨(some 3), none, false, .mov (.k (.d (.bool false)))⟩])
 (.seq
 (.reg false [1, 4] [⟨(some 9), none, false, .fa 0 0 (.t 1)⟩,
 ⟨(some 10), none, false, .ld none (.t 9)⟩,
 ⟨(some 11), none, false, .fa 1 1 (.t 1)⟩,
 ⟨(some 12), none, false, .ld none (.t 11)⟩,
 ⟨(some 13), none, false, .bin .add (.t 10) (.t 12)⟩,
 ⟨(some 4), none, false, .mov (.t 13)⟩])
 (.seq
 (.reg false [1, 4, 5, 6] [⟨(some 15), none, false, .mov (.t 4)⟩,
 ⟨(some 16), none, true, .call 57 [(.t 15)]⟩,
 ⟨(some 14), none, false, .mov (.t 16)⟩,
 ⟨(some 17), none, false, .ext (.t 14) 0⟩,
 ⟨(some 18), none, false, .ext (.t 14) 1⟩,
 ⟨(some 5), none, false, .mov (.t 17)⟩,
 ⟨(some 6), none, false, .mov (.t 18)⟩])
 (.seq
 (.reg false [1, 4, 5, 6, 8] [⟨(some 20), none, false, .fa 0 0 (.t 1)⟩,
 ⟨(some 21), none, false, .ld none (.t 20)⟩,
 ⟨(some 22), none, true, .call 57 [(.t 21)]⟩,
 ⟨(some 19), none, false, .mov (.t 22)⟩,
 ⟨(some 23), none, false, .ext (.t 19) 0⟩,
 ⟨(some 24), none, false, .ext (.t 19) 1⟩,
 ⟨(some 7), none, false, .mov (.t 23)⟩,
 ⟨(some 8), none, false, .mov (.t 24)⟩])
 (.seq
 (.reg true [2, 3] [⟨(some 25), none, false, .mov (.t 5)⟩,
 ⟨(some 26), none, false, .mov (.t 6)⟩,
 ⟨(some 27), none, false, .mov (.t 4)⟩,
 ⟨(some 28), none, false, .len true (.t 27)⟩,
 ⟨(some 29), none, false, .bin .eql (.t 26) (.t 28)⟩,
 ⟨(some 30), none, false, .mov (.t 29)⟩,
 ⟨(some 31), (some (30, true)), false, .mov (.t 8)⟩,
 ⟨(some 32), (some (30, true)), false, .fa 0 0 (.t 1)⟩,
 ⟨(some 33), (some (30, true)), false, .ld none (.t 32)⟩,
 ⟨(some 34), (some (30, true)), false, .len true (.t 33)⟩,
 ⟨(some 35), (some (30, true)), false, .bin .eql (.t 31) (.t 34)⟩,
 ⟨(some 36), none, false, .pick (.t 30) (.t 35) (.k (.d (.bool false)))⟩,
 ⟨(some 37), none, false, .mov (.t 36)⟩,
 ⟨(some 38), (some (37, true)), false, .fa 2 2 (.t 1)⟩,
 ⟨(some 39), (some (37, true)), false, .ld none (.t 38)⟩,
 ⟨(some 40), (some (37, true)), false, .mov (.t 5)⟩,
 ⟨(some 41), (some (37, true)), false, .len false (.t 40)⟩,
 ⟨(some 42), (some (37, true)), false, .bin .eql (.t 39) (.t 41)⟩,
 ⟨(some 43), none, false, .pick (.t 37) (.t 42) (.k (.d (.bool false)))⟩,
 ⟨(some 2), none, false, .mov (.t 25)⟩,
 ⟨(some 3), none, false, .mov (.t 43)⟩])
 .ret)))))
theorem c41 : (Go.Proofs.Tryd.f41).body.bind (comp prog.P (1, (Go.Proofs.Tryd.f41).ntmps) lv41) = some m41 := by kernel_rfl
theorem r41 : resOK prog.P (Go.Proofs.Tryd.f41).results.toList = true := by kernel_rfl

/-- spec.l27Open -/
def lv42 : List (Nat × List Nat) := [(0, [0]), (1, [0, 4]), (2, [0, 4, 5]), (3, [0, 4, 5, 18]), (4, [0, 4, 5, 6]), (5, [0, 4, 5, 6, 7, 8]), (6, [0, 4, 5, 6, 7, 38]), (7, [0, 4, 5, 6]), (8, [0, 4, 5]), (9, [2, 3])]
def m42 : MC :=
  (.seq
 (.reg false [0] [⟨(some 2), none, false, .mov (.k .nil)⟩,
 ⟨(some 3), none, false, .mov (.k (.d (.int .i64 0)))⟩])
 (.seq
 (.reg false [0, 4] [⟨(some 9), none, true, .bs 2 0 (.st (.cons (.str []) (.cons (.str []) .nil))) []⟩,
 ⟨(some 4), none, false, .mov (.t 9)⟩])
 (.seq
 (.reg false [0, 4, 5] [⟨(some 5), none, false, .mov (.k (.d (.int .i64 0)))⟩])
 (.seq
 (.block 0
 (.loop
 (.seq
 (.seq
 (.reg false [0, 4, 5, 18] [⟨(some 10), none, false, .mov (.t 5)⟩,
 ⟨(some 11), none, false, .mov (.t 0)⟩,
 ⟨(some 12), none, false, .len true (.t 11)⟩,
 ⟨(some 13), none, false, .bin .lss (.t 10) (.t 12)⟩,
 ⟨(some 14), none, false, .mov (.t 13)⟩,
 ⟨(some 15), (some (14, true)), false, .mov (.t 4)⟩,
 ⟨(some 16), (some (14, true)), false, .len false (.t 15)⟩,
 ⟨(some 17), (some (14, true)), false, .bin .lss (.t 16) (.k (.d (.int .i64 60)))⟩,
 ⟨(some 18), none, false, .pick (.t 14) (.t 17) (.k (.d (.bool false)))⟩])
 (.cond (.t 18)
 .skip
 (.exit 0)))
 (.block 1
 (.seq
 (.reg false [0, 4, 5, 6] [⟨(some 19), none, false, .mov (.t 0)⟩,
 ⟨(some 20), none, false, .mov (.t 5)⟩,
 ⟨(some 21), none, false, .sls (.t 19) (some (.t 20)) none⟩,
 ⟨(some 22), none, true, .call 61 [(.t 21), (.k (.d (.int .u8 10)))]⟩,
 ⟨(some 6), none, false, .mov (.t 22)⟩])
 (.seq
 (.reg false [0, 4, 5, 6, 7, 8] [⟨(some 24), none, false, .mov (.t 6)⟩,
 ⟨(some 25), none, false, .ia 1 (.t 24) (.k (.d (.int .i64 0)))⟩,
 ⟨(some 26), none, false, .ld none (.t 25)⟩,
 ⟨(some 27), none, false, .mov (.t 4)⟩,
 ⟨(some 28), none, false, .len false (.t 27)⟩,
 ⟨(some 29), none, true, .call 62 [(.t 26), (.t 28)]⟩,
 ⟨(some 23), none, false, .mov (.t 29)⟩,
 ⟨(some 30), none, false, .ext (.t 23) 0⟩,
 ⟨(some 31), none, false, .ext (.t 23) 1⟩,
 ⟨(some 7), none, true, .alloc (.st (.cons (.str []) (.cons (.str []) .nil)))⟩,
 ⟨none, none, true, .st 2 (.t 7) (.t 30)⟩,
 ⟨(some 8), none, false, .mov (.t 31)⟩])
 (.seq
 (.seq
 (.reg false [0, 4, 5, 6, 7, 38] [⟨(some 32), none, false, .mov (.t 6)⟩,
 ⟨(some 33), none, false, .len false (.t 32)⟩,
 ⟨(some 34), none, false, .bin .lss (.t 33) (.k (.d (.int .i64 2)))⟩,
 ⟨(some 35), none, false, .mov (.t 34)⟩,
 ⟨(some 36), (some (35, false)), false, .mov (.t 8)⟩,
 ⟨(some 37), (some (35, false)), false, .un .not (.t 36)⟩,
 ⟨(some 38), none, false, .pick (.t 35) (.k (.d (.bool true))) (.t 37)⟩])
 (.cond (.t 38)
 (.exit 0)
 .skip))
 (.seq
 (.reg false [0, 4, 5, 6] [⟨(some 39), none, false, .mov (.t 4)⟩,
 ⟨(some 40), none, false, .ld (some 2) (.t 7)⟩,
 ⟨(some 41), none, true, .bs 2 1 (.st (.cons (.str []) (.cons (.str []) .nil))) [(0, (.t 40))]⟩,
 ⟨(some 42), none, true, .app 2 32 (.t 39) (.t 41)⟩,
 ⟨(some 4), none, false, .mov (.t 42)⟩])
 (.reg false [0, 4, 5] [⟨(some 43), none, false, .mov (.t 5)⟩,
 ⟨(some 44), none, false, .mov (.t 6)⟩,
 ⟨(some 45), none, false, .ia 1 (.t 44) (.k (.d (.int .i64 0)))⟩,
 ⟨(some 46), none, false, .ld none (.t 45)⟩,
 ⟨(some 47), none, false, .len true (.t 46)⟩,
 ⟨(some 48), none, false, .bin .add (.t 43) (.t 47)⟩,
 ⟨(some 49), none, false, .bin .add (.t 48) (.k (.d (.int .i64 1)))⟩,
 ⟨(some 5), none, false, .mov (.t 49)⟩])))))))))
 (.seq
 (.reg false [2, 3] [⟨(some 50), none, false, .mov (.t 4)⟩,
 ⟨(some 51), none, false, .mov (.t 5)⟩,
 ⟨(some 2), none, false, .mov (.t 50)⟩,
 ⟨(some 3), none, false, .mov (.t 51)⟩])
 .ret)))))
theorem c42 : (Go.Proofs.Tryd.f42).body.bind (comp prog.P (1, (Go.Proofs.Tryd.f42).ntmps) lv42) = some m42 := by kernel_rfl
theorem r42 : resOK prog.P (Go.Proofs.Tryd.f42).results.toList = true := by kernel_rfl

/-- spec.l27Good -/
def lv45 : List (Nat × List Nat) := [(0, [1]), (1, [2])]
def m45 : MC :=
  (.seq
 (.reg false [1] [⟨(some 1), none, true, .box (.t 0)⟩,
 ⟨(some 2), none, false, .mov (.k (.d (.bool false)))⟩])
 (.seq
 (.reg false [2] [⟨(some 3), none, false, .fa 0 0 (.t 1)⟩,
 ⟨(some 4), none, false, .ld none (.t 3)⟩,
 ⟨(some 5), none, false, .bin .neq (.t 4) (.k (.d (.str [])))⟩,
 ⟨(some 6), none, false, .mov (.t 5)⟩,
 ⟨(some 7), (some (6, true)), false, .fa 0 0 (.t 1)⟩,
 ⟨(some 8), (some (6, true)), false, .ld none (.t 7)⟩,
 ⟨(some 9), (some (6, true)), true, .call 63 [(.t 8), (.k (.d (.int .i64 160)))]⟩,
 ⟨(some 10), none, false, .pick (.t 6) (.t 9) (.k (.d (.bool false)))⟩,
 ⟨(some 11), none, false, .mov (.t 10)⟩,
 ⟨(some 12), (some (11, true)), false, .fa 0 0 (.t 1)⟩,
 ⟨(some 13), (some (11, true)), false, .ld none (.t 12)⟩,
 ⟨(some 14), (some (11, true)), true, .call 64 [(.t 13), (.k (.d (.int .u8 64)))]⟩,
 ⟨(some 15), (some (11, true)), false, .un .not (.t 14)⟩,
 ⟨(some 16), none, false, .pick (.t 11) (.t 15) (.k (.d (.bool false)))⟩,
 ⟨(some 17), none, false, .mov (.t 16)⟩,
 ⟨(some 18), (some (17, true)), false, .fa 1 1 (.t 1)⟩,
 ⟨(some 19), (some (17, true)), false, .ld none (.t 18)⟩,
 ⟨(some 20), (some (17, true)), true, .call 63 [(.t 19), (.k (.d (.int .i64 200)))]⟩,
 ⟨(some 21), none, false, .pick (.t 17) (.t 20) (.k (.d (.bool false)))⟩,
 ⟨(some 2), none, false, .mov (.t 21)⟩])
 .ret))
theorem c45 : (Go.Proofs.Tryd.f45).body.bind (comp prog.P (1, (Go.Proofs.Tryd.f45).ntmps) lv45) = some m45 := by kernel_rfl
theorem r45 : resOK prog.P (Go.Proofs.Tryd.f45).results.toList = true := by kernel_rfl

/-- spec.l27Line -/
def lv46 : List (Nat × List Nat) := [(0, [0, 3]), (1, [4])]
def m46 : MC :=
  (.seq
 (.reg false [0, 3] [⟨(some 3), none, true, .box (.t 1)⟩,
 ⟨(some 4), none, false, .mov (.k (.d (.str [])))⟩])
 (.seq
 (.reg true [4] [⟨(some 5), none, false, .mov (.t 0)⟩,
 ⟨(some 6), none, false, .callP 66 [(.t 5)]⟩,
 ⟨(some 7), none, false, .bin .add (.t 6) (.k (.d (.str [32])))⟩,
 ⟨(some 8), none, false, .fa 0 0 (.t 3)⟩,
 ⟨(some 9), none, false, .ld none (.t 8)⟩,
 ⟨(some 10), none, false, .bin .add (.t 7) (.t 9)⟩,
 ⟨(some 11), none, false, .bin .add (.t 10) (.k (.d (.str [64])))⟩,
 ⟨(some 12), none, false, .fa 1 1 (.t 3)⟩,
 ⟨(some 13), none, false, .ld none (.t 12)⟩,
 ⟨(some 14), none, false, .bin .add (.t 11) (.t 13)⟩,
 ⟨(some 15), none, false, .callP 65 [(.t 14)]⟩,
 ⟨(some 16), none, false, .bin .add (.t 15) (.k (.d (.str [10])))⟩,
 ⟨(some 4), none, false, .mov (.t 16)⟩])
 .ret))
theorem c46 : (Go.Proofs.Tryd.f46).body.bind (comp prog.P (2, (Go.Proofs.Tryd.f46).ntmps) lv46) = some m46 := by kernel_rfl
theorem r46 : resOK prog.P (Go.Proofs.Tryd.f46).results.toList = true := by kernel_rfl

/-- spec.l1In -/
def lv47 : List (Nat × List Nat) := [(0, [0, 1, 2]), (1, [6])]
def m47 : MC :=
  (.seq
 (.reg false [0, 1, 2] [⟨(some 6), none, false, .mov (.k (.d (.bool false)))⟩])
 (.seq
 (.reg false [6] [⟨(some 7), none, false, .mov (.t 0)⟩,
 ⟨(some 8), none, false, .mov (.t 1)⟩,
 ⟨(some 9), none, false, .bin .geq (.t 7) (.t 8)⟩,
 ⟨(some 10), none, false, .mov (.t 9)⟩,
 ⟨(some 11), (some (10, true)), false, .mov (.t 0)⟩,
 ⟨(some 12), (some (10, true)), false, .mov (.t 2)⟩,
 ⟨(some 13), (some (10, true)), false, .bin .leq (.t 11) (.t 12)⟩,
 ⟨(some 14), none, false, .pick (.t 10) (.t 13) (.k (.d (.bool false)))⟩,
 ⟨(some 6), none, false, .mov (.t 14)⟩])
 .ret))
theorem c47 : (Go.Proofs.Tryd.f47).body.bind (comp prog.P (3, (Go.Proofs.Tryd.f47).ntmps) lv47) = some m47 := by kernel_rfl
theorem r47 : resOK prog.P (Go.Proofs.Tryd.f47).results.toList = true := by kernel_rfl

/-- impl.within -/
def lv48 : List (Nat × List Nat) := [(0, [0, 1, 2]), (1, [6])]
def m48 : MC :=
  (.seq
 (.reg false [0, 1, 2] [⟨(some 6), none, false, .mov (.k (.d (.bool false)))⟩])
 (.seq
 (.reg false [6] [⟨(some 7), none, false, .mov (.t 1)⟩,
 ⟨(some 8), none, false, .mov (.t 0)⟩,
 ⟨(some 9), none, false, .bin .leq (.t 7) (.t 8)⟩,
 ⟨(some 10), none, false, .mov (.t 9)⟩,
 ⟨(some 11), (some (10, true)), false, .mov (.t 0)⟩,
 ⟨(some 12), (some (10, true)), false, .mov (.t 2)⟩,
 ⟨(some 13), (some (10, true)), false, .bin .leq (.t 11) (.t 12)⟩,
 ⟨(some 14), none, false, .pick (.t 10) (.t 13) (.k (.d (.bool false)))⟩,
 ⟨(some 6), none, false, .mov (.t 14)⟩])
 .ret))
theorem c48 : (Go.Proofs.Tryd.f48).body.bind (comp prog.P (3, (Go.Proofs.Tryd.f48).ntmps) lv48) = some m48 := by kernel_rfl
theorem r48 : resOK prog.P (Go.Proofs.Tryd.f48).results.toList = true := by kernel_rfl

/-- spec.l1Cur).logRecord -/
def lv50 : List (Nat × List Nat) := [(0, [0, 2]), (1, [0, 2, 3]), (2, [0, 2, 3, 12]), (3, [0, 2, 3, 12, 13]), (4, [0, 2, 3]), (5, [0, 2, 3, 21]), (6, [0, 2, 3]), (7, [0, 2])]
def m50 : MC :=
  (.seq
 (.reg false [0, 2] [⟨(some 2), none, true, .alloc (.st (.cons (.str []) (.cons (.str []) .nil)))⟩])
 (.seq
 (.reg false [0, 2, 3] [⟨(some 4), none, false, .mov (.t 0)⟩,
 ⟨(some 5), none, true, .bs 1 5 (.str []) [(0, (.k (.d (.str [99, 111, 117, 110, 116])))), (1, (.k (.d (.str [115, 111, 114, 116, 32, 109, 101, 114, 103, 101])))), (2, (.k (.d (.str [120])))), (3, (.k (.d (.str [115, 101, 108, 101, 99, 116, 32, 50])))), (4, (.k (.d (.str [48, 32, 49]))))]⟩,
 ⟨(some 6), none, true, .call 67 [(.t 4), (.t 5)]⟩,
 ⟨(some 7), none, false, .mov (.t 0)⟩,
 ⟨(some 8), none, true, .bs 1 5 (.str []) [(0, (.k (.d (.str [])))), (1, (.k (.d (.str [51])))), (2, (.k (.d (.str [63])))), (3, (.k (.d (.str [97, 64, 98])))), (4, (.k (.d (.str [51, 32, 49, 32, 50]))))]⟩,
 ⟨(some 9), none, true, .call 67 [(.t 7), (.t 8)]⟩,
 ⟨(some 10), none, true, .bld (.cons (.str []) (.cons (.str []) .nil)) [(0, (.t 6)), (1, (.t 9))]⟩,
 ⟨(some 3), none, true, .alloc (.st (.cons (.str []) (.cons (.str []) .nil)))⟩,
 ⟨none, none, true, .st 2 (.t 3) (.t 10)⟩])
 (.seq
 (.seq
 (.reg false [0, 2, 3, 12] [⟨(some 11), none, false, .mov (.t 0)⟩,
 ⟨(some 12), none, true, .call 54 [(.t 11), (.k (.d (.int .i64 24)))]⟩])
 (.block 0
 (.seq
 (.reg false [0, 2, 3, 12, 13] [⟨(some 14), none, false, .bin .eql (.t 12) (.k (.d (.int .i64 0)))⟩,
 ⟨(some 13), none, false, .mov (.t 14)⟩])
 (.cond (.t 13)
 (.reg false [0, 2, 3] [⟨(some 15), none, false, .mov (.t 0)⟩,
 ⟨(some 16), none, true, .mk 1 1 (.int .u8 0) (.k (.d (.int .i64 3)))⟩,
 ⟨(some 17), none, false, .b2s (.t 16)⟩,
 ⟨(some 18), none, true, .bs 1 5 (.str []) [(0, (.k (.d (.str [])))), (1, (.k (.d (.str [97, 64, 98])))), (2, (.k (.d (.str [97, 35])))), (3, (.k (.d (.str [10])))), (4, (.t 17))]⟩,
 ⟨(some 19), none, true, .call 67 [(.t 15), (.t 18)]⟩,
 ⟨(some 20), none, false, .fa 0 0 (.t 3)⟩,
 ⟨none, none, true, .st 1 (.t 20) (.t 19)⟩])
 (.seq
 (.reg false [0, 2, 3, 21] [⟨(some 22), none, false, .bin .eql (.t 12) (.k (.d (.int .i64 1)))⟩,
 ⟨(some 21), none, false, .mov (.t 22)⟩])
 (.cond (.t 21)
 (.reg false [0, 2, 3] [⟨(some 23), none, false, .mov (.t 0)⟩,
 ⟨(some 24), none, true, .bs 1 3 (.str []) [(0, (.k (.d (.str [35])))), (1, (.k (.d (.str [10])))), (2, (.k (.d (.str [127]))))]⟩,
 ⟨(some 25), none, true, .call 67 [(.t 23), (.t 24)]⟩,
 ⟨(some 26), none, false, .fa 1 1 (.t 3)⟩,
 ⟨none, none, true, .st 1 (.t 26) (.t 25)⟩])
 .skip))))))
 (.seq
 (.reg false [0, 2] [⟨(some 27), none, false, .ld (some 2) (.t 3)⟩,
 ⟨none, none, true, .st 2 (.t 2) (.t 27)⟩])
 .ret))))
theorem c50 : (Go.Proofs.Tryd.f50).body.bind (comp prog.P (1, (Go.Proofs.Tryd.f50).ntmps) lv50) = some m50 := by kernel_rfl
theorem r50 : resOK prog.P (Go.Proofs.Tryd.f50).results.toList = true := by kernel_rfl

/-- impl.AppendChecksum -/
def lv51 : List (Nat × List Nat) := [(0, [0]), (1, [0, 11]), (2, [2, 3]), (3, [4]), (4, [4, 20]), (5, [2, 3]), (6, [2, 3])]
def m51 : MC :=
  (.seq
 (.reg false [0] [⟨(some 2), none, false, .mov (.k (.d (.str [])))⟩,
 ⟨(some 3), none, false, .mov (.k (.d (.bool false)))⟩])
 (.seq
 (.seq
 (.reg false [0, 11] [⟨(some 5), none, false, .mov (.t 0)⟩,
 ⟨(some 6), none, false, .len true (.t 5)⟩,
 ⟨(some 7), none, false, .bin .gtr (.t 6) (.k (.d (.int .i64 4000)))⟩,
 ⟨(some 8), none, false, .mov (.t 7)⟩,
 ⟨(some 9), (some (8, false)), false, .mov (.t 0)⟩,
 ⟨(some 10), (some (8, false)), true, .call 60 [(.t 9), (.k (.d (.str [35])))]⟩,
 ⟨(some 11), none, false, .pick (.t 8) (.k (.d (.bool true))) (.t 10)⟩])
 (.cond (.t 11)
 (.seq
 (.reg false [2, 3] [⟨(some 2), none, false, .mov (.k (.d (.str [])))⟩,
 ⟨(some 3), none, false, .mov (.k (.d (.bool false)))⟩])
 .ret)
 .skip))
 (.seq
 (.reg false [4] [⟨(some 12), none, false, .mov (.t 0)⟩,
 ⟨(some 13), none, false, .bin .add (.t 12) (.k (.d (.str [35])))⟩,
 ⟨(some 14), none, false, .mov (.t 0)⟩,
 ⟨(some 15), none, true, .call 68 [(.t 14)]⟩,
 ⟨(some 16), none, true, .call 52 [(.t 15)]⟩,
 ⟨(some 17), none, false, .bin .add (.t 13) (.t 16)⟩,
 ⟨(some 4), none, false, .mov (.t 17)⟩])
 (.seq
 (.seq
 (.reg false [4, 20] [⟨(some 18), none, false, .mov (.t 4)⟩,
 ⟨(some 19), none, false, .len true (.t 18)⟩,
 ⟨(some 20), none, false, .bin .gtr (.t 19) (.k (.d (.int .i64 4000)))⟩])
 (.cond (.t 20)
 (.seq
 (.reg false [2, 3] [⟨(some 2), none, false, .mov (.k (.d (.str [])))⟩,
 ⟨(some 3), none, false, .mov (.k (.d (.bool false)))⟩])
 .ret)
 .skip))
 (.seq
 (.reg false [2, 3] [⟨(some 21), none, false, .mov (.t 4)⟩,
 ⟨(some 2), none, false, .mov (.t 21)⟩,
 ⟨(some 3), none, false, .mov (.k (.d (.bool true)))⟩])
 .ret)))))
theorem c51 : (Go.Proofs.Tryd.f51).body.bind (comp prog.P (1, (Go.Proofs.Tryd.f51).ntmps) lv51) = some m51 := by kernel_rfl
theorem r51 : resOK prog.P (Go.Proofs.Tryd.f51).results.toList = true := by kernel_rfl

/-- impl.decimal -/
def lv52 : List (Nat × List Nat) := [(0, [0]), (1, [2])]
def m52 : MC :=
  (.seq
 (.reg false [0] [⟨(some 2), none, false, .mov (.k (.d (.str [])))⟩])
 (.seq
 (.reg false [2] [⟨(some 3), none, false, .mov (.t 0)⟩,
 ⟨(some 4), none, true, .call 69 [(.t 3)]⟩,
 ⟨(some 2), none, false, .mov (.t 4)⟩])
 .ret))
theorem c52 : (Go.Proofs.Tryd.f52).body.bind (comp prog.P (1, (Go.Proofs.Tryd.f52).ntmps) lv52) = some m52 := by kernel_rfl
theorem r52 : resOK prog.P (Go.Proofs.Tryd.f52).results.toList = true := by kernel_rfl

/-- spec.l1Cur).log -/
def lv53 : List (Nat × List Nat) := [(0, [0, 2]), (1, [0, 2, 3]), (2, [0, 2, 3, 4]), (3, [0, 2, 3, 4, 9]), (4, [0, 2, 3, 4]), (5, [0, 2, 3, 4]), (6, [0, 2, 3, 4, 20]), (7, [0, 2, 3, 4]), (8, [0, 2]), (1000005, [1, 7, 1, 0, 1, 1, 2, 2, 2, 3, 1, 4, 1, 5, 1, 6, 2, 7, 0])]
def m53 : MC :=
  (.seq
 (.reg false [0, 2] [⟨(some 2), none, true, .alloc (.st (.cons (.str []) (.cons (.str []) (.cons (.int .i64 0) .nil))))⟩])
 (.seq
 (.reg false [0, 2, 3] [⟨(some 5), none, true, .bld (.cons (.str []) (.cons (.str []) (.cons (.int .i64 0) .nil))) []⟩,
 ⟨(some 3), none, true, .alloc (.st (.cons (.str []) (.cons (.str []) (.cons (.int .i64 0) .nil))))⟩,
 ⟨none, none, true, .st 3 (.t 3) (.t 5)⟩])
 (.seq
 (.seq
 (.reg false [0, 2, 3, 4] [⟨(some 6), none, false, .mov (.t 0)⟩,
 ⟨(some 7), none, true, .call 54 [(.t 6), (.k (.d (.int .i64 7)))]⟩,
 ⟨(some 4), none, false, .mov (.t 7)⟩])
 (.block 0
 (.loop
 (.seq
 (.seq
 (.reg false [0, 2, 3, 4, 9] [⟨(some 8), none, false, .mov (.t 4)⟩,
 ⟨(some 9), none, false, .bin .gtr (.t 8) (.k (.d (.int .i64 0)))⟩])
 (.cond (.t 9)
 .skip
 (.exit 0)))
 (.seq
 (.block 1
 (.seq
 (.any [7] [0, 2, 3, 4] (.q 0 ⟨(some 13), none, false, .ld (some 3) (.t 3)⟩ (.q 1 ⟨(some 14), none, false, .mov (.t 0)⟩ (.e 2 ⟨(some 15), none, true, .call 50 [(.t 14)]⟩ (.e 3 ⟨(some 16), none, true, .call 24 [(.t 13), (.t 15)]⟩ (.q 4 ⟨(some 12), none, false, .mov (.t 16)⟩ (.q 5 ⟨(some 17), none, false, .ext (.t 12) 0⟩ (.q 6 ⟨(some 18), none, false, .ext (.t 12) 1⟩ (.e 7 ⟨none, none, true, .st 3 (.t 3) (.t 17)⟩ .done)))))))))
 (.seq
 (.reg false [0, 2, 3, 4, 20] [⟨(some 19), none, false, .mov (.t 0)⟩,
 ⟨(some 20), none, true, .call 56 [(.t 19), (.k (.d (.int .i64 4)))]⟩])
 (.cond (.t 20)
 (.reg false [0, 2, 3, 4] [⟨(some 22), none, false, .ld (some 3) (.t 3)⟩,
 ⟨(some 23), none, true, .call 15 [(.t 22)]⟩,
 ⟨(some 21), none, false, .mov (.t 23)⟩,
 ⟨(some 24), none, false, .ext (.t 21) 0⟩,
 ⟨(some 25), none, false, .ext (.t 21) 1⟩,
 ⟨none, none, true, .st 3 (.t 3) (.t 24)⟩])
 .skip))))
 (.reg false [0, 2, 3, 4] [⟨(some 10), none, false, .mov (.t 4)⟩,
 ⟨(some 11), none, false, .bin .sub (.t 10) (.k (.d (.int .i64 1)))⟩,
 ⟨(some 4), none, false, .mov (.t 11)⟩]))))))
 (.seq
 (.reg false [0, 2] [⟨(some 26), none, false, .ld (some 3) (.t 3)⟩,
 ⟨none, none, true, .st 3 (.t 2) (.t 26)⟩])
 .ret))))
theorem c53 : (Go.Proofs.Tryd.f53).body.bind (comp prog.P (1, (Go.Proofs.Tryd.f53).ntmps) lv53) = some m53 := by kernel_rfl
theorem r53 : resOK prog.P (Go.Proofs.Tryd.f53).results.toList = true := by kernel_rfl

/-- spec.l1Cur).pick -/
def lv54 : List (Nat × List Nat) := [(0, [0, 1]), (1, [0, 1, 7]), (2, [0, 4]), (3, [0, 1, 5]), (4, [0, 1, 5, 11]), (5, [0, 1, 5]), (6, [0, 4])]
def m54 : MC :=
  (.seq
 (.reg false [0, 1] [⟨(some 4), none, false, .mov (.k (.d (.int .i64 0)))⟩])
 (.seq
 (.seq
 (.reg false [0, 1, 7] [⟨(some 6), none, false, .mov (.t 1)⟩,
 ⟨(some 7), none, false, .bin .leq (.t 6) (.k (.d (.int .i64 1)))⟩])
 (.cond (.t 7)
 (.seq
 (.reg false [0, 4] [⟨(some 4), none, false, .mov (.k (.d (.int .i64 0)))⟩])
 .ret)
 .skip))
 (.seq
 (.reg false [0, 1, 5] [⟨(some 8), none, false, .mov (.t 0)⟩,
 ⟨(some 9), none, true, .call 70 [(.t 8)]⟩,
 ⟨(some 5), none, false, .mov (.t 9)⟩])
 (.seq
 (.seq
 (.reg false [0, 1, 5, 11] [⟨(some 10), none, false, .mov (.t 1)⟩,
 ⟨(some 11), none, false, .bin .gtr (.t 10) (.k (.d (.int .i64 200)))⟩])
 (.cond (.t 11)
 (.reg false [0, 1, 5] [⟨(some 12), none, false, .mov (.t 5)⟩,
 ⟨(some 13), none, false, .bin .mul (.t 12) (.k (.d (.int .i64 256)))⟩,
 ⟨(some 14), none, false, .mov (.t 0)⟩,
 ⟨(some 15), none, true, .call 70 [(.t 14)]⟩,
 ⟨(some 16), none, false, .bin .add (.t 13) (.t 15)⟩,
 ⟨(some 5), none, false, .mov (.t 16)⟩])
 .skip))
 (.seq
 (.reg false [0, 4] [⟨(some 17), none, false, .mov (.t 5)⟩,
 ⟨(some 18), none, false, .mov (.t 1)⟩,
 ⟨(some 19), none, false, .bin .rem (.t 17) (.t 18)⟩,
 ⟨(some 4), none, false, .mov (.t 19)⟩])
 .ret)))))
theorem c54 : (Go.Proofs.Tryd.f54).body.bind (comp prog.P (2, (Go.Proofs.Tryd.f54).ntmps) lv54) = some m54 := by kernel_rfl
theorem r54 : resOK prog.P (Go.Proofs.Tryd.f54).results.toList = true := by kernel_rfl

/-- spec.l1Cur).spoilt -/
def lv55 : List (Nat × List Nat) := [(0, [0, 1, 2]), (1, [0, 1, 2, 10]), (2, [0, 6]), (3, [0, 1, 2, 7]), (4, [0, 1, 7, 8]), (5, [0, 1, 7, 8, 25]), (6, [0, 1, 7, 8, 25, 26]), (7, [0, 6]), (8, [0, 1, 7, 8, 37]), (9, [0, 6]), (10, [0, 6])]
def m55 : MC :=
  (.seq
 (.reg false [0, 1, 2] [⟨(some 6), none, false, .mov (.k (.d (.str [])))⟩])
 (.seq
 (.seq
 (.reg false [0, 1, 2, 10] [⟨(some 9), none, false, .mov (.t 1)⟩,
 ⟨(some 10), none, false, .bin .eql (.t 9) (.k (.d (.str [])))⟩])
 (.cond (.t 10)
 (.seq
 (.reg false [0, 6] [⟨(some 11), none, false, .mov (.t 2)⟩,
 ⟨(some 12), none, false, .sls (.t 11) none (some (.k (.d (.int .i64 1))))⟩,
 ⟨(some 6), none, false, .mov (.t 12)⟩])
 .ret)
 .skip))
 (.seq
 (.reg false [0, 1, 2, 7] [⟨(some 13), none, false, .mov (.t 0)⟩,
 ⟨(some 14), none, false, .mov (.t 1)⟩,
 ⟨(some 15), none, false, .len true (.t 14)⟩,
 ⟨(some 16), none, true, .call 54 [(.t 13), (.t 15)]⟩,
 ⟨(some 7), none, false, .mov (.t 16)⟩])
 (.seq
 (.reg false [0, 1, 7, 8] [⟨(some 17), none, false, .mov (.t 2)⟩,
 ⟨(some 18), none, false, .mov (.t 0)⟩,
 ⟨(some 19), none, false, .mov (.t 2)⟩,
 ⟨(some 20), none, false, .len true (.t 19)⟩,
 ⟨(some 21), none, true, .call 54 [(.t 18), (.t 20)]⟩,
 ⟨(some 22), none, false, .sls (.t 17) (some (.t 21)) none⟩,
 ⟨(some 23), none, false, .sls (.t 22) none (some (.k (.d (.int .i64 1))))⟩,
 ⟨(some 8), none, false, .mov (.t 23)⟩])
 (.seq
 (.seq
 (.reg false [0, 1, 7, 8, 25] [⟨(some 24), none, false, .mov (.t 0)⟩,
 ⟨(some 25), none, true, .call 54 [(.t 24), (.k (.d (.int .i64 3)))]⟩])
 (.block 0
 (.seq
 (.reg false [0, 1, 7, 8, 25, 26] [⟨(some 27), none, false, .bin .eql (.t 25) (.k (.d (.int .i64 0)))⟩,
 ⟨(some 26), none, false, .mov (.t 27)⟩])
 (.cond (.t 26)
 (.seq
 (.reg true [0, 6] [⟨(some 28), none, false, .mov (.t 1)⟩,
 ⟨(some 29), none, false, .mov (.t 7)⟩,
 ⟨(some 30), none, false, .sls (.t 28) none (some (.t 29))⟩,
 ⟨(some 31), none, false, .mov (.t 8)⟩,
 ⟨(some 32), none, false, .bin .add (.t 30) (.t 31)⟩,
 ⟨(some 33), none, false, .mov (.t 1)⟩,
 ⟨(some 34), none, false, .mov (.t 7)⟩,
 ⟨(some 35), none, false, .sls (.t 33) (some (.t 34)) none⟩,
 ⟨(some 36), none, false, .bin .add (.t 32) (.t 35)⟩,
 ⟨(some 6), none, false, .mov (.t 36)⟩])
 .ret)
 (.seq
 (.reg false [0, 1, 7, 8, 37] [⟨(some 38), none, false, .bin .eql (.t 25) (.k (.d (.int .i64 1)))⟩,
 ⟨(some 37), none, false, .mov (.t 38)⟩])
 (.cond (.t 37)
 (.seq
 (.reg true [0, 6] [⟨(some 39), none, false, .mov (.t 1)⟩,
 ⟨(some 40), none, false, .mov (.t 7)⟩,
 ⟨(some 41), none, false, .sls (.t 39) none (some (.t 40))⟩,
 ⟨(some 42), none, false, .mov (.t 8)⟩,
 ⟨(some 43), none, false, .bin .add (.t 41) (.t 42)⟩,
 ⟨(some 44), none, false, .mov (.t 1)⟩,
 ⟨(some 45), none, false, .mov (.t 7)⟩,
 ⟨(some 46), none, false, .bin .add (.t 45) (.k (.d (.int .i64 1)))⟩,
 ⟨(some 47), none, false, .sls (.t 44) (some (.t 46)) none⟩,
 ⟨(some 48), none, false, .bin .add (.t 43) (.t 47)⟩,
 ⟨(some 6), none, false, .mov (.t 48)⟩])
 .ret)
 .skip))))))
 (.seq
 (.reg true [0, 6] [⟨(some 49), none, false, .mov (.t 1)⟩,
 ⟨(some 50), none, false, .mov (.t 7)⟩,
 ⟨(some 51), none, false, .sls (.t 49) none (some (.t 50))⟩,
 ⟨(some 52), none, false, .mov (.t 1)⟩,
 ⟨(some 53), none, false, .mov (.t 7)⟩,
 ⟨(some 54), none, false, .bin .add (.t 53) (.k (.d (.int .i64 1)))⟩,
 ⟨(some 55), none, false, .sls (.t 52) (some (.t 54)) none⟩,
 ⟨(some 56), none, false, .bin .add (.t 51) (.t 55)⟩,
 ⟨(some 6), none, false, .mov (.t 56)⟩])
 .ret))))))
theorem c55 : (Go.Proofs.Tryd.f55).body.bind (comp prog.P (3, (Go.Proofs.Tryd.f55).ntmps) lv55) = some m55 := by kernel_rfl
theorem r55 : resOK prog.P (Go.Proofs.Tryd.f55).results.toList = true := by kernel_rfl

/-- spec.l1Cur).one -/
def lv56 : List (Nat × List Nat) := [(0, [0, 1]), (1, [0, 4])]
def m56 : MC :=
  (.seq
 (.reg false [0, 1] [⟨(some 4), none, false, .mov (.k (.d (.bool false)))⟩])
 (.seq
 (.reg false [0, 4] [⟨(some 5), none, false, .mov (.t 0)⟩,
 ⟨(some 6), none, false, .mov (.t 1)⟩,
 ⟨(some 7), none, true, .call 54 [(.t 5), (.t 6)]⟩,
 ⟨(some 8), none, false, .bin .eql (.t 7) (.k (.d (.int .i64 0)))⟩,
 ⟨(some 4), none, false, .mov (.t 8)⟩])
 .ret))
theorem c56 : (Go.Proofs.Tryd.f56).body.bind (comp prog.P (2, (Go.Proofs.Tryd.f56).ntmps) lv56) = some m56 := by kernel_rfl
theorem r56 : resOK prog.P (Go.Proofs.Tryd.f56).results.toList = true := by kernel_rfl

end Go.Pe.Tryd
