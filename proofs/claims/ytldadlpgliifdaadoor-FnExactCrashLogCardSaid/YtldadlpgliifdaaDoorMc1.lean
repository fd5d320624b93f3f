/-
The compact code of the functions that the law reaches, printed by gen.py, each with the proof that the machine's code is compiled to it.
-/
import Derived.Test.YtldadlpgliifdaaDoorPeC
import Derived.Lib.ItoaNum
import Derived.Lib.LaidTab
import Derived.Test.YtldadlpgliifdaaDoorProg
import Derived.KernelRfl
set_option maxRecDepth 100000
namespace Go.Pe.Tryd
open Go.Pe

/-- of the start-up memory it is asked that the library's table of powers of ten stands, that a number of the library's is there. -/
theorem tab_stab {P : Program} {n : String} {k : IntKind} {zs : List Int} {g : Nat} (hg : P.globalNamed n = some g) (w w' : World) (_ : w.heap.size ≤ w'.heap.size) (hk : ∀ b, b < w.heap.size → w'.heap[b]? = w.heap[b]?) (h : Go.Lib.TabIs P w n k zs) : Go.Lib.TabIs P w' n k zs := by
  unfold Go.Lib.TabIs World.var? at h ⊢
  rw [hg] at h ⊢
  simp only [Option.bind_some] at h ⊢
  by_cases hb : g < w.heap.size
  · rw [hk g hb]; exact h
  · rw [Array.getElem?_eq_none (by omega)] at h
    simp at h
theorem cell_stab (g : Nat) (w w' : World) (hk : ∀ b, b < w.heap.size → w'.heap[b]? = w.heap[b]?) (h : ∃ m, w.cell? ⟨g, 0, none⟩ = some (.int .i64 m)) : ∃ m, w'.cell? ⟨g, 0, none⟩ = some (.int .i64 m) := by
  obtain ⟨m, h⟩ := h
  by_cases hb : g < w.heap.size
  · refine ⟨m, ?_⟩
    unfold World.cell? at h ⊢
    rw [hk g hb]; exact h
  · have hn : w.heap[g]? = none := Array.getElem?_eq_none (by omega)
    simp [World.cell?, hn] at h
noncomputable def prog : PG := ⟨Go.Proofs.Tryd.prog, fun w => (Go.Lib.TabIs Go.Proofs.Tryd.prog w "internal/strconv.uint64pow10" .u64 Go.Lib.pow10Tab) ∧ (∃ m, w.cell? ⟨0, 0, none⟩ = some (.int .i64 m)), fun w w' hs hk h => ⟨tab_stab (show Go.Proofs.Tryd.prog.globalNamed "internal/strconv.uint64pow10" = some 1 by kernel_rfl) w w' hs hk h.1, cell_stab 0 w w' hk h.2⟩⟩
theorem tabOf {w : World} (h : prog.F w) : Go.Lib.TabIs Go.Proofs.Tryd.prog w "internal/strconv.uint64pow10" .u64 Go.Lib.pow10Tab := h.1
theorem maxOf {w : World} (h : prog.F w) : ∃ m, w.cell? ⟨0, 0, none⟩ = some (.int .i64 m) := h.2

theorem sz26 : sizeOfT prog.P 26 = some 3 := by kernel_rfl

theorem sz42 : sizeOfT prog.P 42 = some 2 := by kernel_rfl

/-- laws.FnExactCrashLog -/
def lv7 : List (Nat × List Nat) := [(0, [1, 2, 3]), (1, [1, 2, 3, 7]), (2, [1, 2, 3, 7]), (3, [1, 2, 3, 16]), (4, [6]), (5, [1, 2, 3, 8, 9]), (6, [8, 9, 10, 11]), (7, [40]), (8, [6]), (9, [6])]
def m7 : MC :=
  (.seq
 (.reg false [1, 2, 3] [⟨(some 3), none, true, .box (.t 0)⟩,
 ⟨(some 6), none, false, .mov (.k (.d (.bool false)))⟩])
 (.seq
 (.reg false [1, 2, 3, 7] [⟨(some 7), none, false, .mov (.k (.d (.int .i64 1048576)))⟩])
 (.seq
 (.reg false [1, 2, 3, 7] [⟨(some 12), none, false, .ld (some 3) (.t 3)⟩,
 ⟨(some 13), none, false, .mov (.t 7)⟩,
 ⟨(some 14), none, true, .call 11 [(.t 12), (.t 13)]⟩,
 ⟨(some 7), none, false, .mov (.t 14)⟩])
 (.seq
 (.seq
 (.reg false [1, 2, 3, 16] [⟨(some 15), none, false, .mov (.t 7)⟩,
 ⟨(some 16), none, false, .bin .lss (.t 15) (.k (.d (.int .i64 0)))⟩])
 (.cond (.t 16)
 (.seq
 (.reg false [6] [⟨(some 6), none, false, .mov (.k (.d (.bool true)))⟩])
 .ret)
 .skip))
 (.seq
 (.reg false [1, 2, 3, 8, 9] [⟨(some 18), none, false, .ld (some 3) (.t 3)⟩,
 ⟨(some 19), none, true, .call 13 [(.t 18)]⟩,
 ⟨(some 20), none, false, .mov (.t 1)⟩,
 ⟨(some 21), none, false, .mov (.t 2)⟩,
 ⟨(some 22), none, true, .call 27 [(.t 19), (.t 20), (.t 21)]⟩,
 ⟨(some 17), none, false, .mov (.t 22)⟩,
 ⟨(some 23), none, false, .ext (.t 17) 0⟩,
 ⟨(some 24), none, false, .ext (.t 17) 1⟩,
 ⟨(some 8), none, false, .mov (.t 23)⟩,
 ⟨(some 9), none, false, .mov (.t 24)⟩])
 (.seq
 (.reg false [8, 9, 10, 11] [⟨(some 26), none, false, .ld (some 3) (.t 3)⟩,
 ⟨(some 27), none, true, .call 13 [(.t 26)]⟩,
 ⟨(some 28), none, false, .mov (.t 1)⟩,
 ⟨(some 29), none, false, .mov (.t 2)⟩,
 ⟨(some 30), none, true, .call 28 [(.t 27), (.t 28), (.t 29)]⟩,
 ⟨(some 25), none, false, .mov (.t 30)⟩,
 ⟨(some 31), none, false, .ext (.t 25) 0⟩,
 ⟨(some 32), none, false, .ext (.t 25) 1⟩,
 ⟨(some 10), none, false, .mov (.t 31)⟩,
 ⟨(some 11), none, false, .mov (.t 32)⟩])
 (.seq
 (.seq
 (.reg false [40] [⟨(some 33), none, false, .mov (.t 10)⟩,
 ⟨(some 34), none, false, .mov (.t 8)⟩,
 ⟨(some 35), none, false, .bin .neq (.t 33) (.t 34)⟩,
 ⟨(some 36), none, false, .mov (.t 35)⟩,
 ⟨(some 37), (some (36, false)), false, .mov (.t 11)⟩,
 ⟨(some 38), (some (36, false)), false, .mov (.t 9)⟩,
 ⟨(some 39), (some (36, false)), false, .bb .neq (.t 37) (.t 38)⟩,
 ⟨(some 40), none, false, .pick (.t 36) (.k (.d (.bool true))) (.t 39)⟩])
 (.cond (.t 40)
 (.seq
 (.reg false [6] [⟨(some 6), none, false, .mov (.k (.d (.bool false)))⟩])
 .ret)
 .skip))
 (.seq
 (.reg false [6] [⟨(some 6), none, false, .mov (.k (.d (.bool true)))⟩])
 .ret))))))))
theorem c7 : (Go.Proofs.Tryd.f7).body.bind (comp prog.P (3, (Go.Proofs.Tryd.f7).ntmps) lv7) = some m7 := by kernel_rfl
theorem r7 : resOK prog.P (Go.Proofs.Tryd.f7).results.toList = true := by kernel_rfl

/-- laws.szLog -/
def lv11 : List (Nat × List Nat) := [(0, [1, 2]), (1, [1, 2]), (2, [1, 2, 11]), (3, [4]), (4, [1]), (5, [1, 18]), (6, [4]), (7, [4])]
def m11 : MC :=
  (.seq
 (.reg false [1, 2] [⟨(some 2), none, true, .box (.t 0)⟩,
 ⟨(some 4), none, false, .mov (.k (.d (.int .i64 0)))⟩])
 (.seq
 (.reg false [1, 2] [⟨(some 5), none, false, .mov (.t 1)⟩,
 ⟨(some 6), none, false, .fa 0 0 (.t 2)⟩,
 ⟨(some 7), none, false, .ld none (.t 6)⟩,
 ⟨(some 8), none, false, .len true (.t 7)⟩,
 ⟨(some 9), none, false, .bin .sub (.t 5) (.t 8)⟩,
 ⟨(some 1), none, false, .mov (.t 9)⟩])
 (.seq
 (.seq
 (.reg false [1, 2, 11] [⟨(some 10), none, false, .mov (.t 1)⟩,
 ⟨(some 11), none, false, .bin .lss (.t 10) (.k (.d (.int .i64 0)))⟩])
 (.cond (.t 11)
 (.seq
 (.reg false [4] [⟨(some 4), none, false, .mov (.k (.d (.int .i64 (-1))))⟩])
 .ret)
 .skip))
 (.seq
 (.reg false [1] [⟨(some 12), none, false, .mov (.t 1)⟩,
 ⟨(some 13), none, false, .fa 1 1 (.t 2)⟩,
 ⟨(some 14), none, false, .ld none (.t 13)⟩,
 ⟨(some 15), none, false, .len true (.t 14)⟩,
 ⟨(some 16), none, false, .bin .sub (.t 12) (.t 15)⟩,
 ⟨(some 1), none, false, .mov (.t 16)⟩])
 (.seq
 (.seq
 (.reg false [1, 18] [⟨(some 17), none, false, .mov (.t 1)⟩,
 ⟨(some 18), none, false, .bin .lss (.t 17) (.k (.d (.int .i64 0)))⟩])
 (.cond (.t 18)
 (.seq
 (.reg false [4] [⟨(some 4), none, false, .mov (.k (.d (.int .i64 (-1))))⟩])
 .ret)
 .skip))
 (.seq
 (.reg false [4] [⟨(some 19), none, false, .mov (.t 1)⟩,
 ⟨(some 4), none, false, .mov (.t 19)⟩])
 .ret))))))
theorem c11 : (Go.Proofs.Tryd.f11).body.bind (comp prog.P (1, (Go.Proofs.Tryd.f11).ntmps) lv11) = some m11 := by kernel_rfl
theorem r11 : resOK prog.P (Go.Proofs.Tryd.f11).results.toList = true := by kernel_rfl

/-- laws.toLog -/
def lv13 : List (Nat × List Nat) := [(0, [1, 2]), (1, [1, 2, 3]), (2, [1, 2, 3]), (3, [1, 2, 3]), (4, [2, 3]), (5, [2])]
def m13 : MC :=
  (.seq
 (.reg false [1, 2] [⟨(some 1), none, true, .box (.t 0)⟩,
 ⟨(some 2), none, true, .alloc (.st (.cons (.str []) (.cons (.str []) (.cons (.int .i64 0) .nil))))⟩])
 (.seq
 (.reg false [1, 2, 3] [⟨(some 3), none, true, .alloc (.st (.cons (.str []) (.cons (.str []) (.cons (.int .i64 0) .nil))))⟩])
 (.seq
 (.reg false [1, 2, 3] [⟨(some 4), none, false, .fa 0 0 (.t 1)⟩,
 ⟨(some 5), none, false, .ld none (.t 4)⟩,
 ⟨(some 6), none, false, .fa 0 0 (.t 3)⟩,
 ⟨none, none, true, .st 1 (.t 6) (.t 5)⟩])
 (.seq
 (.reg false [1, 2, 3] [⟨(some 7), none, false, .fa 1 1 (.t 1)⟩,
 ⟨(some 8), none, false, .ld none (.t 7)⟩,
 ⟨(some 9), none, false, .fa 1 1 (.t 3)⟩,
 ⟨none, none, true, .st 1 (.t 9) (.t 8)⟩])
 (.seq
 (.reg false [2, 3] [⟨(some 10), none, false, .fa 2 2 (.t 1)⟩,
 ⟨(some 11), none, false, .ld none (.t 10)⟩,
 ⟨(some 12), none, false, .fa 2 2 (.t 3)⟩,
 ⟨none, none, true, .st 1 (.t 12) (.t 11)⟩])
 (.seq
 (.reg false [2] [⟨(some 13), none, false, .ld (some 3) (.t 3)⟩,
 ⟨none, none, true, .st 3 (.t 2) (.t 13)⟩])
 .ret))))))
theorem c13 : (Go.Proofs.Tryd.f13).body.bind (comp prog.P (1, (Go.Proofs.Tryd.f13).ntmps) lv13) = some m13 := by kernel_rfl
theorem r13 : resOK prog.P (Go.Proofs.Tryd.f13).results.toList = true := by kernel_rfl

/-- impl.IsValidLog -/
def lv14 : List (Nat × List Nat) := [(0, [1]), (1, [4]), (2, [2])]
def m14 : MC :=
  (.seq
 (.reg false [1] [⟨(some 1), none, true, .box (.t 0)⟩,
 ⟨(some 2), none, false, .mov (.k (.d (.bool false)))⟩])
 (.seq
 (.reg false [4] [⟨(some 6), none, false, .ld (some 3) (.t 1)⟩,
 ⟨(some 7), none, true, .call 41 [(.t 6)]⟩,
 ⟨(some 5), none, false, .mov (.t 7)⟩,
 ⟨(some 8), none, false, .ext (.t 5) 0⟩,
 ⟨(some 9), none, false, .ext (.t 5) 1⟩,
 ⟨(some 3), none, false, .mov (.t 8)⟩,
 ⟨(some 4), none, false, .mov (.t 9)⟩])
 (.seq
 (.reg false [2] [⟨(some 10), none, false, .mov (.t 4)⟩,
 ⟨(some 2), none, false, .mov (.t 10)⟩])
 .ret)))
theorem c14 : (Go.Proofs.Tryd.f14).body.bind (comp prog.P (1, (Go.Proofs.Tryd.f14).ntmps) lv14) = some m14 := by kernel_rfl
theorem r14 : resOK prog.P (Go.Proofs.Tryd.f14).results.toList = true := by kernel_rfl

/-- spec.CrashLog -/
def lv27 : List (Nat × List Nat) := [(0, [1, 2, 3]), (1, [1, 2, 3, 19]), (2, [6, 7]), (3, [1, 2, 3, 8]), (4, [1, 3, 8, 29]), (5, [3, 8]), (6, [6, 7])]
def m27 : MC :=
  (.seq
 (.reg false [1, 2, 3] [⟨(some 3), none, true, .box (.t 0)⟩,
 ⟨(some 6), none, false, .mov (.k (.d (.str [])))⟩,
 ⟨(some 7), none, false, .mov (.k (.d (.bool false)))⟩])
 (.seq
 (.seq
 (.reg false [1, 2, 3, 19] [⟨(some 9), none, false, .ld (some 3) (.t 3)⟩,
 ⟨(some 10), none, true, .call 40 [(.t 9)]⟩,
 ⟨(some 11), none, false, .un .not (.t 10)⟩,
 ⟨(some 12), none, false, .mov (.t 11)⟩,
 ⟨(some 13), (some (12, false)), false, .mov (.t 1)⟩,
 ⟨(some 14), (some (12, false)), false, .fa 1 1 (.t 3)⟩,
 ⟨(some 15), (some (12, false)), false, .ld none (.t 14)⟩,
 ⟨(some 16), (some (12, false)), false, .len true (.t 15)⟩,
 ⟨(some 17), (some (12, false)), true, .call 47 [(.t 13), (.k (.d (.int .i64 0))), (.t 16)]⟩,
 ⟨(some 18), (some (12, false)), false, .un .not (.t 17)⟩,
 ⟨(some 19), none, false, .pick (.t 12) (.k (.d (.bool true))) (.t 18)⟩])
 (.cond (.t 19)
 (.seq
 (.reg false [6, 7] [⟨(some 6), none, false, .mov (.k (.d (.str [])))⟩,
 ⟨(some 7), none, false, .mov (.k (.d (.bool false)))⟩])
 .ret)
 .skip))
 (.seq
 (.reg false [1, 2, 3, 8] [⟨(some 20), none, false, .fa 1 1 (.t 3)⟩,
 ⟨(some 21), none, false, .ld none (.t 20)⟩,
 ⟨(some 22), none, false, .mov (.t 1)⟩,
 ⟨(some 23), none, false, .sls (.t 21) none (some (.t 22))⟩,
 ⟨(some 24), none, true, .s2b (.t 23)⟩,
 ⟨(some 8), none, false, .mov (.t 24)⟩])
 (.seq
 (.seq
 (.reg false [1, 3, 8, 29] [⟨(some 25), none, false, .mov (.t 2)⟩,
 ⟨(some 26), none, false, .mov (.t 25)⟩,
 ⟨(some 27), (some (26, true)), false, .mov (.t 1)⟩,
 ⟨(some 28), (some (26, true)), false, .bin .gtr (.t 27) (.k (.d (.int .i64 0)))⟩,
 ⟨(some 29), none, false, .pick (.t 26) (.t 28) (.k (.d (.bool false)))⟩])
 (.cond (.t 29)
 (.reg false [3, 8] [⟨(some 30), none, false, .mov (.t 8)⟩,
 ⟨(some 31), none, false, .mov (.t 1)⟩,
 ⟨(some 32), none, false, .bin .sub (.t 31) (.k (.d (.int .i64 1)))⟩,
 ⟨(some 33), none, false, .mov (.t 8)⟩,
 ⟨(some 34), none, false, .mov (.t 1)⟩,
 ⟨(some 35), none, false, .bin .sub (.t 34) (.k (.d (.int .i64 1)))⟩,
 ⟨(some 36), none, false, .ia 1 (.t 33) (.t 35)⟩,
 ⟨(some 37), none, false, .ld none (.t 36)⟩,
 ⟨(some 38), none, false, .bin .sub (.k (.d (.int .u8 255))) (.t 37)⟩,
 ⟨(some 39), none, false, .ia 1 (.t 30) (.t 32)⟩,
 ⟨none, none, true, .st 1 (.t 39) (.t 38)⟩])
 .skip))
 (.seq
 (.reg false [6, 7] [⟨(some 40), none, false, .fa 0 0 (.t 3)⟩,
 ⟨(some 41), none, false, .ld none (.t 40)⟩,
 ⟨(some 42), none, false, .mov (.t 8)⟩,
 ⟨(some 43), none, false, .b2s (.t 42)⟩,
 ⟨(some 44), none, false, .bin .add (.t 41) (.t 43)⟩,
 ⟨(some 6), none, false, .mov (.t 44)⟩,
 ⟨(some 7), none, false, .mov (.k (.d (.bool true)))⟩])
 .ret)))))
theorem c27 : (Go.Proofs.Tryd.f27).body.bind (comp prog.P (3, (Go.Proofs.Tryd.f27).ntmps) lv27) = some m27 := by kernel_rfl
theorem r27 : resOK prog.P (Go.Proofs.Tryd.f27).results.toList = true := by kernel_rfl

/-- impl.CrashLog -/
def lv28 : List (Nat × List Nat) := [(0, [1, 2, 3]), (1, [1, 2, 3, 19]), (2, [6, 7]), (3, [1, 2, 3, 8]), (4, [1, 3, 8, 29]), (5, [3, 8]), (6, [6, 7])]
def m28 : MC :=
  (.seq
 (.reg false [1, 2, 3] [⟨(some 3), none, true, .box (.t 0)⟩,
 ⟨(some 6), none, false, .mov (.k (.d (.str [])))⟩,
 ⟨(some 7), none, false, .mov (.k (.d (.bool false)))⟩])
 (.seq
 (.seq
 (.reg false [1, 2, 3, 19] [⟨(some 9), none, false, .ld (some 3) (.t 3)⟩,
 ⟨(some 10), none, true, .call 14 [(.t 9)]⟩,
 ⟨(some 11), none, false, .un .not (.t 10)⟩,
 ⟨(some 12), none, false, .mov (.t 11)⟩,
 ⟨(some 13), (some (12, false)), false, .mov (.t 1)⟩,
 ⟨(some 14), (some (12, false)), false, .fa 1 1 (.t 3)⟩,
 ⟨(some 15), (some (12, false)), false, .ld none (.t 14)⟩,
 ⟨(some 16), (some (12, false)), false, .len true (.t 15)⟩,
 ⟨(some 17), (some (12, false)), true, .call 48 [(.t 13), (.k (.d (.int .i64 0))), (.t 16)]⟩,
 ⟨(some 18), (some (12, false)), false, .un .not (.t 17)⟩,
 ⟨(some 19), none, false, .pick (.t 12) (.k (.d (.bool true))) (.t 18)⟩])
 (.cond (.t 19)
 (.seq
 (.reg false [6, 7] [⟨(some 6), none, false, .mov (.k (.d (.str [])))⟩,
 ⟨(some 7), none, false, .mov (.k (.d (.bool false)))⟩])
 .ret)
 .skip))
 (.seq
 (.reg false [1, 2, 3, 8] [⟨(some 20), none, false, .fa 1 1 (.t 3)⟩,
 ⟨(some 21), none, false, .ld none (.t 20)⟩,
 ⟨(some 22), none, false, .mov (.t 1)⟩,
 ⟨(some 23), none, false, .sls (.t 21) none (some (.t 22))⟩,
 ⟨(some 24), none, true, .s2b (.t 23)⟩,
 ⟨(some 8), none, false, .mov (.t 24)⟩])
 (.seq
 (.seq
 (.reg false [1, 3, 8, 29] [⟨(some 25), none, false, .mov (.t 2)⟩,
 ⟨(some 26), none, false, .mov (.t 25)⟩,
 ⟨(some 27), (some (26, true)), false, .mov (.t 1)⟩,
 ⟨(some 28), (some (26, true)), false, .bin .gtr (.t 27) (.k (.d (.int .i64 0)))⟩,
 ⟨(some 29), none, false, .pick (.t 26) (.t 28) (.k (.d (.bool false)))⟩])
 (.cond (.t 29)
 (.reg false [3, 8] [⟨(some 30), none, false, .mov (.t 8)⟩,
 ⟨(some 31), none, false, .mov (.t 1)⟩,
 ⟨(some 32), none, false, .bin .sub (.t 31) (.k (.d (.int .i64 1)))⟩,
 ⟨(some 33), none, false, .mov (.t 8)⟩,
 ⟨(some 34), none, false, .mov (.t 1)⟩,
 ⟨(some 35), none, false, .bin .sub (.t 34) (.k (.d (.int .i64 1)))⟩,
 ⟨(some 36), none, false, .ia 1 (.t 33) (.t 35)⟩,
 ⟨(some 37), none, false, .ld none (.t 36)⟩,
 ⟨(some 38), none, false, .bin .sub (.k (.d (.int .u8 255))) (.t 37)⟩,
 ⟨(some 39), none, false, .ia 1 (.t 30) (.t 32)⟩,
 ⟨none, none, true, .st 1 (.t 39) (.t 38)⟩])
 .skip))
 (.seq
 (.reg false [6, 7] [⟨(some 40), none, false, .fa 0 0 (.t 3)⟩,
 ⟨(some 41), none, false, .ld none (.t 40)⟩,
 ⟨(some 42), none, false, .mov (.t 8)⟩,
 ⟨(some 43), none, false, .b2s (.t 42)⟩,
 ⟨(some 44), none, false, .bin .add (.t 41) (.t 43)⟩,
 ⟨(some 6), none, false, .mov (.t 44)⟩,
 ⟨(some 7), none, false, .mov (.k (.d (.bool true)))⟩])
 .ret)))))
theorem c28 : (Go.Proofs.Tryd.f28).body.bind (comp prog.P (3, (Go.Proofs.Tryd.f28).ntmps) lv28) = some m28 := by kernel_rfl
theorem r28 : resOK prog.P (Go.Proofs.Tryd.f28).results.toList = true := by kernel_rfl

/-- impl.EncodeRecord -/
def lv31 : List (Nat × List Nat) := [(0, [0, 3]), (1, [0, 3, 15]), (2, [4, 5]), (3, [6, 7]), (4, [4, 5])]
def m31 : MC :=
  (.seq
 (.reg false [0, 3] [⟨(some 3), none, true, .box (.t 1)⟩,
 ⟨(some 4), none, false, .mov (.k (.d (.str [])))⟩,
 ⟨(some 5), none, false, .mov (.k (.d (.bool false)))⟩])
 (.seq
 (.seq
 (.reg false [0, 3, 15] [⟨(some 8), none, false, .mov (.t 0)⟩,
 ⟨(some 9), none, true, .call 48 [(.t 8), (.k (.d (.int .i64 0))), (.k (.d (.int .i64 59)))]⟩,
 ⟨(some 10), none, false, .un .not (.t 9)⟩,
 ⟨(some 11), none, false, .mov (.t 10)⟩,
 ⟨(some 12), (some (11, false)), false, .ld (some 2) (.t 3)⟩,
 ⟨(some 13), (some (11, false)), true, .call 37 [(.t 12)]⟩,
 ⟨(some 14), (some (11, false)), false, .un .not (.t 13)⟩,
 ⟨(some 15), none, false, .pick (.t 11) (.k (.d (.bool true))) (.t 14)⟩])
 (.cond (.t 15)
 (.seq
 (.reg false [4, 5] [⟨(some 4), none, false, .mov (.k (.d (.str [])))⟩,
 ⟨(some 5), none, false, .mov (.k (.d (.bool false)))⟩])
 .ret)
 .skip))
 (.seq
 (.reg true [6, 7] [⟨(some 17), none, false, .mov (.t 0)⟩,
 ⟨(some 18), none, false, .callP 52 [(.t 17)]⟩,
 ⟨(some 19), none, false, .bin .add (.t 18) (.k (.d (.str [32])))⟩,
 ⟨(some 20), none, false, .fa 0 0 (.t 3)⟩,
 ⟨(some 21), none, false, .ld none (.t 20)⟩,
 ⟨(some 22), none, false, .bin .add (.t 19) (.t 21)⟩,
 ⟨(some 23), none, false, .bin .add (.t 22) (.k (.d (.str [64])))⟩,
 ⟨(some 24), none, false, .fa 1 1 (.t 3)⟩,
 ⟨(some 25), none, false, .ld none (.t 24)⟩,
 ⟨(some 26), none, false, .bin .add (.t 23) (.t 25)⟩,
 ⟨(some 27), none, false, .callP 51 [(.t 26)]⟩,
 ⟨(some 16), none, false, .mov (.t 27)⟩,
 ⟨(some 28), none, false, .ext (.t 16) 0⟩,
 ⟨(some 29), none, false, .ext (.t 16) 1⟩,
 ⟨(some 6), none, false, .mov (.t 28)⟩,
 ⟨(some 7), none, false, .mov (.t 29)⟩])
 (.seq
 (.reg false [4, 5] [⟨(some 30), none, false, .mov (.t 6)⟩,
 ⟨(some 31), none, false, .bin .add (.t 30) (.k (.d (.str [10])))⟩,
 ⟨(some 32), none, false, .mov (.t 7)⟩,
 ⟨(some 4), none, false, .mov (.t 31)⟩,
 ⟨(some 5), none, false, .mov (.t 32)⟩])
 .ret))))
theorem c31 : (Go.Proofs.Tryd.f31).body.bind (comp prog.P (2, (Go.Proofs.Tryd.f31).ntmps) lv31) = some m31 := by kernel_rfl
theorem r31 : resOK prog.P (Go.Proofs.Tryd.f31).results.toList = true := by kernel_rfl

/-- impl.IsValidRecord -/
def lv37 : List (Nat × List Nat) := [(0, [1]), (1, [2])]
def m37 : MC :=
  (.seq
 (.reg false [1] [⟨(some 1), none, true, .box (.t 0)⟩,
 ⟨(some 2), none, false, .mov (.k (.d (.bool false)))⟩])
 (.seq
 (.reg false [2] [⟨(some 3), none, false, .fa 0 0 (.t 1)⟩,
 ⟨(some 4), none, false, .ld none (.t 3)⟩,
 ⟨(some 5), none, false, .len true (.t 4)⟩,
 ⟨(some 6), none, true, .call 48 [(.t 5), (.k (.d (.int .i64 1))), (.k (.d (.int .i64 160)))]⟩,
 ⟨(some 7), none, false, .mov (.t 6)⟩,
 ⟨(some 8), (some (7, true)), false, .fa 1 1 (.t 1)⟩,
 ⟨(some 9), (some (7, true)), false, .ld none (.t 8)⟩,
 ⟨(some 10), (some (7, true)), false, .len true (.t 9)⟩,
 ⟨(some 11), (some (7, true)), false, .bin .leq (.t 10) (.k (.d (.int .i64 200)))⟩,
 ⟨(some 12), none, false, .pick (.t 7) (.t 11) (.k (.d (.bool false)))⟩,
 ⟨(some 13), none, false, .mov (.t 12)⟩,
 ⟨(some 14), (some (13, true)), false, .fa 0 0 (.t 1)⟩,
 ⟨(some 15), (some (13, true)), false, .ld none (.t 14)⟩,
 ⟨(some 16), (some (13, true)), true, .call 59 [(.t 15)]⟩,
 ⟨(some 17), none, false, .pick (.t 13) (.t 16) (.k (.d (.bool false)))⟩,
 ⟨(some 18), none, false, .mov (.t 17)⟩,
 ⟨(some 19), (some (18, true)), false, .fa 1 1 (.t 1)⟩,
 ⟨(some 20), (some (18, true)), false, .ld none (.t 19)⟩,
 ⟨(some 21), (some (18, true)), true, .call 59 [(.t 20)]⟩,
 ⟨(some 22), none, false, .pick (.t 18) (.t 21) (.k (.d (.bool false)))⟩,
 ⟨(some 23), none, false, .mov (.t 22)⟩,
 ⟨(some 24), (some (23, true)), false, .fa 0 0 (.t 1)⟩,
 ⟨(some 25), (some (23, true)), false, .ld none (.t 24)⟩,
 ⟨(some 26), (some (23, true)), true, .call 60 [(.t 25), (.k (.d (.str [64])))]⟩,
 ⟨(some 27), (some (23, true)), false, .un .not (.t 26)⟩,
 ⟨(some 28), none, false, .pick (.t 23) (.t 27) (.k (.d (.bool false)))⟩,
 ⟨(some 2), none, false, .mov (.t 28)⟩])
 .ret))
theorem c37 : (Go.Proofs.Tryd.f37).body.bind (comp prog.P (1, (Go.Proofs.Tryd.f37).ntmps) lv37) = some m37 := by kernel_rfl
theorem r37 : resOK prog.P (Go.Proofs.Tryd.f37).results.toList = true := by kernel_rfl

/-- spec.l27Log -/
def lv40 : List (Nat × List Nat) := [(0, [1]), (1, [1, 14]), (2, [2]), (3, [1, 3, 4]), (4, [1, 3, 4, 6]), (5, [2])]
def m40 : MC :=
  (.seq
 (.reg false [1] [⟨(some 1), none, true, .box (.t 0)⟩,
 ⟨(some 2), none, false, .mov (.k (.d (.bool false)))⟩])
 (.seq
 (.seq
 (.reg false [1, 14] [⟨(some 7), none, false, .fa 0 0 (.t 1)⟩,
 ⟨(some 8), none, false, .ld none (.t 7)⟩,
 ⟨(some 9), none, false, .len true (.t 8)⟩,
 ⟨(some 10), none, false, .fa 1 1 (.t 1)⟩,
 ⟨(some 11), none, false, .ld none (.t 10)⟩,
 ⟨(some 12), none, false, .len true (.t 11)⟩,
 ⟨(some 13), none, false, .bin .add (.t 9) (.t 12)⟩,
 ⟨(some 14), none, false, .bin .gtr (.t 13) (.k (.d (.int .i64 30000)))⟩])
 (.cond (.t 14)
 (.seq
 (.reg false [2] [⟨(some 2), none, false, .mov (.k (.d (.bool false)))⟩])
 .ret)
 .skip))
 (.seq
 (.reg false [1, 3, 4] [⟨(some 16), none, false, .fa 0 0 (.t 1)⟩,
 ⟨(some 17), none, false, .ld none (.t 16)⟩,
 ⟨(some 18), none, false, .fa 1 1 (.t 1)⟩,
 ⟨(some 19), none, false, .ld none (.t 18)⟩,
 ⟨(some 20), none, false, .bin .add (.t 17) (.t 19)⟩,
 ⟨(some 21), none, true, .call 42 [(.t 20)]⟩,
 ⟨(some 15), none, false, .mov (.t 21)⟩,
 ⟨(some 22), none, false, .ext (.t 15) 0⟩,
 ⟨(some 23), none, false, .ext (.t 15) 1⟩,
 ⟨(some 3), none, false, .mov (.t 22)⟩,
 ⟨(some 4), none, false, .mov (.t 23)⟩])
 (.seq
 (.reg false [1, 3, 4, 6] [⟨(some 25), none, false, .fa 0 0 (.t 1)⟩,
 ⟨(some 26), none, false, .ld none (.t 25)⟩,
 ⟨(some 27), none, true, .call 42 [(.t 26)]⟩,
 ⟨(some 24), none, false, .mov (.t 27)⟩,
 ⟨(some 28), none, false, .ext (.t 24) 0⟩,
 ⟨(some 29), none, false, .ext (.t 24) 1⟩,
 ⟨(some 5), none, false, .mov (.t 28)⟩,
 ⟨(some 6), none, false, .mov (.t 29)⟩])
 (.seq
 (.reg false [2] [⟨(some 30), none, false, .mov (.t 4)⟩,
 ⟨(some 31), none, false, .fa 0 0 (.t 1)⟩,
 ⟨(some 32), none, false, .ld none (.t 31)⟩,
 ⟨(some 33), none, false, .len true (.t 32)⟩,
 ⟨(some 34), none, false, .fa 1 1 (.t 1)⟩,
 ⟨(some 35), none, false, .ld none (.t 34)⟩,
 ⟨(some 36), none, false, .len true (.t 35)⟩,
 ⟨(some 37), none, false, .bin .add (.t 33) (.t 36)⟩,
 ⟨(some 38), none, false, .bin .eql (.t 30) (.t 37)⟩,
 ⟨(some 39), none, false, .mov (.t 38)⟩,
 ⟨(some 40), (some (39, true)), false, .mov (.t 6)⟩,
 ⟨(some 41), (some (39, true)), false, .fa 0 0 (.t 1)⟩,
 ⟨(some 42), (some (39, true)), false, .ld none (.t 41)⟩,
 ⟨(some 43), (some (39, true)), false, .len true (.t 42)⟩,
 ⟨(some 44), (some (39, true)), false, .bin .eql (.t 40) (.t 43)⟩,
 ⟨(some 45), none, false, .pick (.t 39) (.t 44) (.k (.d (.bool false)))⟩,
 ⟨(some 46), none, false, .mov (.t 45)⟩,
 ⟨(some 47), (some (46, true)), false, .mov (.t 3)⟩,
 ⟨(some 48), (some (46, true)), false, .len false (.t 47)⟩,
 ⟨(some 49), (some (46, true)), false, .fa 2 2 (.t 1)⟩,
 ⟨(some 50), (some (46, true)), false, .ld none (.t 49)⟩,
 ⟨(some 51), (some (46, true)), false, .bin .eql (.t 48) (.t 50)⟩,
 ⟨(some 52), none, false, .pick (.t 46) (.t 51) (.k (.d (.bool false)))⟩,
 ⟨(some 2), none, false, .mov (.t 52)⟩])
 .ret)))))
theorem c40 : (Go.Proofs.Tryd.f40).body.bind (comp prog.P (1, (Go.Proofs.Tryd.f40).ntmps) lv40) = some m40 := by kernel_rfl
theorem r40 : resOK prog.P (Go.Proofs.Tryd.f40).results.toList = true := by kernel_rfl

/-- impl.recordsOf -/
def lv41 : List (Nat × List Nat) := [(0, [1]), (1, [1, 4]), (2, [1, 4, 5, 6]), (3, [1, 4, 5, 6, 8]), (4, [2, 3])]
def m41 : MC :=
  (.seq
 (.reg false [1] [⟨(some 1), none, true, .box (.t 0)⟩,
 ⟨(some 2), none, false, .mov (.k .nil)⟩,
 ⟨(some 3), none, false, .mov (.k (.d (.bool false)))⟩])
 (.seq
 (.reg false [1, 4] [⟨(some 9), none, false, .fa 0 0 (.t 1)⟩,
 ⟨(some 10), none, false, .ld none (.t 9)⟩,
 ⟨(some 11), none, false, .fa 1 1 (.t 1)⟩,
 ⟨(some 12), none, false, .ld none (.t 11)⟩,
 ⟨(some 13), none, false, .bin .add (.t 10) (.t 12)⟩,
 ⟨(some 4), none, false, .mov (.t 13)⟩])
 (.seq
 (.reg false [1, 4, 5, 6] [⟨(some 15), none, false, .mov (.t 4)⟩,
 ⟨(some 16), none, true, .call 57 [(.t 15)]⟩,
 ⟨(some 14), none, false, .mov (.t 16)⟩,
 ⟨(some 17), none, false, .ext (.t 14) 0⟩,
 ⟨(some 18), none, false, .ext (.t 14) 1⟩,
 ⟨(some 5), none, false, .mov (.t 17)⟩,
 ⟨(some 6), none, false, .mov (.t 18)⟩])
 (.seq
 (.reg false [1, 4, 5, 6, 8] [⟨(some 20), none, false, .fa 0 0 (.t 1)⟩,
 ⟨(some 21), none, false, .ld none (.t 20)⟩,
 ⟨(some 22), none, true, .call 57 [(.t 21)]⟩,
 ⟨(some 19), none, false, .mov (.t 22)⟩,
 ⟨(some 23), none, false, .ext (.t 19) 0⟩,
 ⟨(some 24), none, false, .ext (.t 19) 1⟩,
 ⟨(some 7), none, false, .mov (.t 23)⟩,
 ⟨(some 8), none, false, .mov (.t 24)⟩])
 (.seq
 (.reg true [2, 3] [⟨(some 25), none, false, .mov (.t 5)⟩,
 ⟨(some 26), none, false, .mov (.t 6)⟩,
 ⟨(some 27), none, false, .mov (.t 4)⟩,
 ⟨(some 28), none, false, .len true (.t 27)⟩,
 ⟨(some 29), none, false, .bin .eql (.t 26) (.t 28)⟩,
 ⟨(some 30), none, false, .mov (.t 29)⟩,
 ⟨(some 31), (some (30, true)), false, .mov (.t 8)⟩,
 ⟨(some 32), (some (30, true)), false, .fa 0 0 (.t 1)⟩,
 ⟨(some 33), (some (30, true)), false, .ld none (.t 32)⟩,
 ⟨(some 34), (some (30, true)), false, .len true (.t 33)⟩,
 ⟨(some 35), (some (30, true)), false, .bin .eql (.t 31) (.t 34)⟩,
 ⟨(some 36), none, false, .pick (.t 30) (.t 35) (.k (.d (.bool false)))⟩,
 ⟨(some 37), none, false, .mov (.t 36)⟩,
 ⟨(some 38), (some (37, true)), false, .fa 2 2 (.t 1)⟩,
 ⟨(some 39), (some (37, true)), false, .ld none (.t 38)⟩,
 ⟨(some 40), (some (37, true)), false, .mov (.t 5)⟩,
 ⟨(some 41), (some (37, true)), false, .len false (.t 40)⟩,
 ⟨(some 42), (some (37, true)), false, .bin .eql (.t 39) (.t 41)⟩,
 ⟨(some 43), none, false, .pick (.t 37) (.t 42) (.k (.d (.bool false)))⟩,
 ⟨(some 2), none, false, .mov (.t 25)⟩,
 ⟨(some 3), none, false, .mov (.t 43)⟩])
 .ret)))))
theorem c41 : (Go.Proofs.Tryd.f41).body.bind (comp prog.P (1, (Go.Proofs.Tryd.f41).ntmps) lv41) = some m41 := by kernel_rfl
theorem r41 : resOK prog.P (Go.Proofs.Tryd.f41).results.toList = true := by kernel_rfl

/-- spec.l27Open -/
def lv42 : List (Nat × List Nat) := [(0, [0]), (1, [0, 4]), (2, [0, 4, 5]), (3, [0, 4, 5, 18]), (4, [0, 4, 5, 6]), (5, [0, 4, 5, 6, 7, 8]), (6, [0, 4, 5, 6, 7, 38]), (7, [0, 4, 5, 6]), (8, [0, 4, 5]), (9, [2, 3])]
def m42 : MC :=
  (.seq
 (.reg false [0] [⟨(some 2), none, false, .mov (.k .nil)⟩,
 ⟨(some 3), none, false, .mov (.k (.d (.int .i64 0)))⟩])
 (.seq
 (.reg false [0, 4] [⟨(some 9), none, true, .bs 2 0 (.st (.cons (.str []) (.cons (.str []) .nil))) []⟩,
 ⟨(some 4), none, false, .mov (.t 9)⟩])
 (.seq
 (.reg false [0, 4, 5] [⟨(some 5), none, false, .mov (.k (.d (.int .i64 0)))⟩])
 (.seq
 (.block 0
 (.loop
 (.seq
 (.seq
 (.reg false [0, 4, 5, 18] [⟨(some 10), none, false, .mov (.t 5)⟩,
 ⟨(some 11), none, false, .mov (.t 0)⟩,
 ⟨(some 12), none, false, .len true (.t 11)⟩,
 ⟨(some 13), none, false, .bin .lss (.t 10) (.t 12)⟩,
 ⟨(some 14), none, false, .mov (.t 13)⟩,
 ⟨(some 15), (some (14, true)), false, .mov (.t 4)⟩,
 ⟨(some 16), (some (14, true)), false, .len false (.t 15)⟩,
 ⟨(some 17), (some (14, true)), false, .bin .lss (.t 16) (.k (.d (.int .i64 60)))⟩,
 ⟨(some 18), none, false, .pick (.t 14) (.t 17) (.k (.d (.bool false)))⟩])
 (.cond (.t 18)
 .skip
 (.exit 0)))
 (.block 1
 (.seq
 (.reg false [0, 4, 5, 6] [⟨(some 19), none, false, .mov (.t 0)⟩,
 ⟨(some 20), none, false, .mov (.t 5)⟩,
 ⟨(some 21), none, false, .sls (.t 19) (some (.t 20)) none⟩,
 ⟨(some 22), none, true, .call 61 [(.t 21), (.k (.d (.int .u8 10)))]⟩,
 ⟨(some 6), none, false, .mov (.t 22)⟩])
 (.seq
 (.reg false [0, 4, 5, 6, 7, 8] [⟨(some 24), none, false, .mov (.t 6)⟩,
 ⟨(some 25), none, false, .ia 1 (.t 24) (.k (.d (.int .i64 0)))⟩,
 ⟨(some 26), none, false, .ld none (.t 25)⟩,
 ⟨(some 27), none, false, .mov (.t 4)⟩,
 ⟨(some 28), none, false, .len false (.t 27)⟩,
 ⟨(some 29), none, true, .call 62 [(.t 26), (.t 28)]⟩,
 ⟨(some 23), none, false, .mov (.t 29)⟩,
 ⟨(some 30), none, false, .ext (.t 23) 0⟩,
 ⟨(some 31), none, false, .ext (.t 23) 1⟩,
 ⟨(some 7), none, true, .alloc (.st (.cons (.str []) (.cons (.str []) .nil)))⟩,
 ⟨none, none, true, .st 2 (.t 7) (.t 30)⟩,
 ⟨(some 8), none, false, .mov (.t 31)⟩])
 (.seq
 (.seq
 (.reg false [0, 4, 5, 6, 7, 38] [⟨(some 32), none, false, .mov (.t 6)⟩,
 ⟨(some 33), none, false, .len false (.t 32)⟩,
 ⟨(some 34), none, false, .bin .lss (.t 33) (.k (.d (.int .i64 2)))⟩,
 ⟨(some 35), none, false, .mov (.t 34)⟩,
 ⟨(some 36), (some (35, false)), false, .mov (.t 8)⟩,
 ⟨(some 37), (some (35, false)), false, .un .not (.t 36)⟩,
 ⟨(some 38), none, false, .pick (.t 35) (.k (.d (.bool true))) (.t 37)⟩])
 (.cond (.t 38)
 (.exit 0)
 .skip))
 (.seq
 (.reg false [0, 4, 5, 6] [⟨(some 39), none, false, .mov (.t 4)⟩,
 ⟨(some 40), none, false, .ld (some 2) (.t 7)⟩,
 ⟨(some 41), none, true, .bs 2 1 (.st (.cons (.str []) (.cons (.str []) .nil))) [(0, (.t 40))]⟩,
 ⟨(some 42), none, true, .app 2 32 (.t 39) (.t 41)⟩,
 ⟨(some 4), none, false, .mov (.t 42)⟩])
 (.reg false [0, 4, 5] [⟨(some 43), none, false, .mov (.t 5)⟩,
 ⟨(some 44), none, false, .mov (.t 6)⟩,
 ⟨(some 45), none, false, .ia 1 (.t 44) (.k (.d (.int .i64 0)))⟩,
 ⟨(some 46), none, false, .ld none (.t 45)⟩,
 ⟨(some 47), none, false, .len true (.t 46)⟩,
 ⟨(some 48), none, false, .bin .add (.t 43) (.t 47)⟩,
 ⟨(some 49), none, false, .bin .add (.t 48) (.k (.d (.int .i64 1)))⟩,
 ⟨(some 5), none, false, .mov (.t 49)⟩])))))))))
 (.seq
 (.reg false [2, 3] [⟨(some 50), none, false, .mov (.t 4)⟩,
 ⟨(some 51), none, false, .mov (.t 5)⟩,
 ⟨(some 2), none, false, .mov (.t 50)⟩,
 ⟨(some 3), none, false, .mov (.t 51)⟩])
 .ret)))))
theorem c42 : (Go.Proofs.Tryd.f42).body.bind (comp prog.P (1, (Go.Proofs.Tryd.f42).ntmps) lv42) = some m42 := by kernel_rfl
theorem r42 : resOK prog.P (Go.Proofs.Tryd.f42).results.toList = true := by kernel_rfl

/-- spec.l27Good -/
def lv45 : List (Nat × List Nat) := [(0, [1]), (1, [2])]
def m45 : MC :=
  (.seq
 (.reg false [1] [⟨(some 1), none, true, .box (.t 0)⟩,
 ⟨(some 2), none, false, .mov (.k (.d (.bool false)))⟩])
 (.seq
 (.reg false [2] [⟨(some 3), none, false, .fa 0 0 (.t 1)⟩,
 ⟨(some 4), none, false, .ld none (.t 3)⟩,
 ⟨(some 5), none, false, .bin .neq (.t 4) (.k (.d (.str [])))⟩,
 ⟨(some 6), none, false, .mov (.t 5)⟩,
 ⟨(some 7), (some (6, true)), false, .fa 0 0 (.t 1)⟩,
 ⟨(some 8), (some (6, true)), false, .ld none (.t 7)⟩,
 ⟨(some 9), (some (6, true)), true, .call 63 [(.t 8), (.k (.d (.int .i64 160)))]⟩,
 ⟨(some 10), none, false, .pick (.t 6) (.t 9) (.k (.d (.bool false)))⟩,
 ⟨(some 11), none, false, .mov (.t 10)⟩,
 ⟨(some 12), (some (11, true)), false, .fa 0 0 (.t 1)⟩,
 ⟨(some 13), (some (11, true)), false, .ld none (.t 12)⟩,
 ⟨(some 14), (some (11, true)), true, .call 64 [(.t 13), (.k (.d (.int .u8 64)))]⟩,
 ⟨(some 15), (some (11, true)), false, .un .not (.t 14)⟩,
 ⟨(some 16), none, false, .pick (.t 11) (.t 15) (.k (.d (.bool false)))⟩,
 ⟨(some 17), none, false, .mov (.t 16)⟩,
 ⟨(some 18), (some (17, true)), false, .fa 1 1 (.t 1)⟩,
 ⟨(some 19), (some (17, true)), false, .ld none (.t 18)⟩,
 ⟨(some 20), (some (17, true)), true, .call 63 [(.t 19), (.k (.d (.int .i64 200)))]⟩,
 ⟨(some 21), none, false, .pick (.t 17) (.t 20) (.k (.d (.bool false)))⟩,
 ⟨(some 2), none, false, .mov (.t 21)⟩])
 .ret))
theorem c45 : (Go.Proofs.Tryd.f45).body.bind (comp prog.P (1, (Go.Proofs.Tryd.f45).ntmps) lv45) = some m45 := by kernel_rfl
theorem r45 : resOK prog.P (Go.Proofs.Tryd.f45).results.toList = true := by kernel_rfl

/-- spec.l27Line -/
def lv46 : List (Nat × List Nat) := [(0, [0, 3]), (1, [4])]
def m46 : MC :=
  (.seq
 (.reg false [0, 3] [⟨(some 3), none, true, .box (.t 1)⟩,
 ⟨(some 4), none, false, .mov (.k (.d (.str [])))⟩])
 (.seq
 (.reg true [4] [⟨(some 5), none, false, .mov (.t 0)⟩,
 ⟨(some 6), none, false, .callP 66 [(.t 5)]⟩,
 ⟨(some 7), none, false, .bin .add (.t 6) (.k (.d (.str [32])))⟩,
 ⟨(some 8), none, false, .fa 0 0 (.t 3)⟩,
 ⟨(some 9), none, false, .ld none (.t 8)⟩,
 ⟨(some 10), none, false, .bin .add (.t 7) (.t 9)⟩,
 ⟨(some 11), none, false, .bin .add (.t 10) (.k (.d (.str [64])))⟩,
 ⟨(some 12), none, false, .fa 1 1 (.t 3)⟩,
 ⟨(some 13), none, false, .ld none (.t 12)⟩,
 ⟨(some 14), none, false, .bin .add (.t 11) (.t 13)⟩,
 ⟨(some 15), none, false, .callP 65 [(.t 14)]⟩,
 ⟨(some 16), none, false, .bin .add (.t 15) (.k (.d (.str [10])))⟩,
 ⟨(some 4), none, false, .mov (.t 16)⟩])
 .ret))
theorem c46 : (Go.Proofs.Tryd.f46).body.bind (comp prog.P (2, (Go.Proofs.Tryd.f46).ntmps) lv46) = some m46 := by kernel_rfl
theorem r46 : resOK prog.P (Go.Proofs.Tryd.f46).results.toList = true := by kernel_rfl

/-- spec.l1In -/
def lv47 : List (Nat × List Nat) := [(0, [0, 1, 2]), (1, [6])]
def m47 : MC :=
  (.seq
 (.reg false [0, 1, 2] [⟨(some 6), none, false, .mov (.k (.d (.bool false)))⟩])
 (.seq
 (.reg false [6] [⟨(some 7), none, false, .mov (.t 0)⟩,
 ⟨(some 8), none, false, .mov (.t 1)⟩,
 ⟨(some 9), none, false, .bin .geq (.t 7) (.t 8)⟩,
 ⟨(some 10), none, false, .mov (.t 9)⟩,
 ⟨(some 11), (some (10, true)), false, .mov (.t 0)⟩,
 ⟨(some 12), (some (10, true)), false, .mov (.t 2)⟩,
 ⟨(some 13), (some (10, true)), false, .bin .leq (.t 11) (.t 12)⟩,
 ⟨(some 14), none, false, .pick (.t 10) (.t 13) (.k (.d (.bool false)))⟩,
 ⟨(some 6), none, false, .mov (.t 14)⟩])
 .ret))
theorem c47 : (Go.Proofs.Tryd.f47).body.bind (comp prog.P (3, (Go.Proofs.Tryd.f47).ntmps) lv47) = some m47 := by kernel_rfl
theorem r47 : resOK prog.P (Go.Proofs.Tryd.f47).results.toList = true := by kernel_rfl

/-- impl.within -/
def lv48 : List (Nat × List Nat) := [(0, [0, 1, 2]), (1, [6])]
def m48 : MC :=
  (.seq
 (.reg false [0, 1, 2] [⟨(some 6), none, false, .mov (.k (.d (.bool false)))⟩])
 (.seq
 (.reg false [6] [⟨(some 7), none, false, .mov (.t 1)⟩,
 ⟨(some 8), none, false, .mov (.t 0)⟩,
 ⟨(some 9), none, false, .bin .leq (.t 7) (.t 8)⟩,
 ⟨(some 10), none, false, .mov (.t 9)⟩,
 ⟨(some 11), (some (10, true)), false, .mov (.t 0)⟩,
 ⟨(some 12), (some (10, true)), false, .mov (.t 2)⟩,
 ⟨(some 13), (some (10, true)), false, .bin .leq (.t 11) (.t 12)⟩,
 ⟨(some 14), none, false, .pick (.t 10) (.t 13) (.k (.d (.bool false)))⟩,
 ⟨(some 6), none, false, .mov (.t 14)⟩])
 .ret))
theorem c48 : (Go.Proofs.Tryd.f48).body.bind (comp prog.P (3, (Go.Proofs.Tryd.f48).ntmps) lv48) = some m48 := by kernel_rfl
theorem r48 : resOK prog.P (Go.Proofs.Tryd.f48).results.toList = true := by kernel_rfl

/-- impl.AppendChecksum -/
def lv51 : List (Nat × List Nat) := [(0, [0]), (1, [0, 11]), (2, [2, 3]), (3, [4]), (4, [4, 20]), (5, [2, 3]), (6, [2, 3])]
def m51 : MC :=
  (.seq
 (.reg false [0] [⟨(some 2), none, false, .mov (.k (.d (.str [])))⟩,
 ⟨(some 3), none, false, .mov (.k (.d (.bool false)))⟩])
 (.seq
 (.seq
 (.reg false [0, 11] [⟨(some 5), none, false, .mov (.t 0)⟩,
 ⟨(some 6), none, false, .len true (.t 5)⟩,
 ⟨(some 7), none, false, .bin .gtr (.t 6) (.k (.d (.int .i64 4000)))⟩,
 ⟨(some 8), none, false, .mov (.t 7)⟩,
 ⟨(some 9), (some (8, false)), false, .mov (.t 0)⟩,
 ⟨(some 10), (some (8, false)), true, .call 60 [(.t 9), (.k (.d (.str [35])))]⟩,
 ⟨(some 11), none, false, .pick (.t 8) (.k (.d (.bool true))) (.t 10)⟩])
 (.cond (.t 11)
 (.seq
 (.reg false [2, 3] [⟨(some 2), none, false, .mov (.k (.d (.str [])))⟩,
 ⟨(some 3), none, false, .mov (.k (.d (.bool false)))⟩])
 .ret)
 .skip))
 (.seq
 (.reg false [4] [⟨(some 12), none, false, .mov (.t 0)⟩,
 ⟨(some 13), none, false, .bin .add (.t 12) (.k (.d (.str [35])))⟩,
 ⟨(some 14), none, false, .mov (.t 0)⟩,
 ⟨(some 15), none, true, .call 68 [(.t 14)]⟩,
 ⟨(some 16), none, true, .call 52 [(.t 15)]⟩,
 ⟨(some 17), none, false, .bin .add (.t 13) (.t 16)⟩,
 ⟨(some 4), none, false, .mov (.t 17)⟩])
 (.seq
 (.seq
 (.reg false [4, 20] [⟨(some 18), none, false, .mov (.t 4)⟩,
 ⟨(some 19), none, false, .len true (.t 18)⟩,
 ⟨(some 20), none, false, .bin .gtr (.t 19) (.k (.d (.int .i64 4000)))⟩])
 (.cond (.t 20)
 (.seq
 (.reg false [2, 3] [⟨(some 2), none, false, .mov (.k (.d (.str [])))⟩,
 ⟨(some 3), none, false, .mov (.k (.d (.bool false)))⟩])
 .ret)
 .skip))
 (.seq
 (.reg false [2, 3] [⟨(some 21), none, false, .mov (.t 4)⟩,
 ⟨(some 2), none, false, .mov (.t 21)⟩,
 ⟨(some 3), none, false, .mov (.k (.d (.bool true)))⟩])
 .ret)))))
theorem c51 : (Go.Proofs.Tryd.f51).body.bind (comp prog.P (1, (Go.Proofs.Tryd.f51).ntmps) lv51) = some m51 := by kernel_rfl
theorem r51 : resOK prog.P (Go.Proofs.Tryd.f51).results.toList = true := by kernel_rfl

/-- impl.decimal -/
def lv52 : List (Nat × List Nat) := [(0, [0]), (1, [2])]
def m52 : MC :=
  (.seq
 (.reg false [0] [⟨(some 2), none, false, .mov (.k (.d (.str [])))⟩])
 (.seq
 (.reg false [2] [⟨(some 3), none, false, .mov (.t 0)⟩,
 ⟨(some 4), none, true, .call 69 [(.t 3)]⟩,
 ⟨(some 2), none, false, .mov (.t 4)⟩])
 .ret))
theorem c52 : (Go.Proofs.Tryd.f52).body.bind (comp prog.P (1, (Go.Proofs.Tryd.f52).ntmps) lv52) = some m52 := by kernel_rfl
theorem r52 : resOK prog.P (Go.Proofs.Tryd.f52).results.toList = true := by kernel_rfl

/-- impl.readRecords -/
def lv57 : List (Nat × List Nat) := [(0, [0]), (1, [0, 4]), (2, [0, 4, 5]), (3, [0, 4, 5, 22]), (4, [0, 4, 5, 6, 8]), (5, [0, 4, 5, 6, 32]), (6, [0, 4, 5, 6, 9]), (7, [0, 4, 5, 6, 12]), (8, [0, 4, 5, 6, 14, 15]), (9, [0, 4, 5, 6, 17]), (10, [0, 4, 5, 6, 17, 18, 19]), (11, [0, 4, 5, 6, 17, 67]), (12, [0, 4, 5, 6]), (13, [0, 4, 5]), (14, [2, 3])]
def m57 : MC :=
  (.seq
 (.reg false [0] [⟨(some 2), none, false, .mov (.k .nil)⟩,
 ⟨(some 3), none, false, .mov (.k (.d (.int .i64 0)))⟩])
 (.seq
 (.reg false [0, 4] [⟨(some 4), none, false, .mov (.k .nil)⟩])
 (.seq
 (.reg false [0, 4, 5] [⟨(some 5), none, false, .mov (.k (.d (.int .i64 0)))⟩])
 (.seq
 (.block 0
 (.loop
 (.seq
 (.seq
 (.reg false [0, 4, 5, 22] [⟨(some 20), none, false, .mov (.t 4)⟩,
 ⟨(some 21), none, false, .len false (.t 20)⟩,
 ⟨(some 22), none, false, .bin .lss (.t 21) (.k (.d (.int .i64 60)))⟩])
 (.cond (.t 22)
 .skip
 (.exit 0)))
 (.block 1
 (.seq
 (.reg false [0, 4, 5, 6, 8] [⟨(some 24), none, false, .mov (.t 0)⟩,
 ⟨(some 25), none, false, .mov (.t 5)⟩,
 ⟨(some 26), none, false, .sls (.t 24) (some (.t 25)) none⟩,
 ⟨(some 27), none, true, .call 71 [(.t 26), (.k (.d (.str [10])))]⟩,
 ⟨(some 23), none, false, .mov (.t 27)⟩,
 ⟨(some 28), none, false, .ext (.t 23) 0⟩,
 ⟨(some 29), none, false, .ext (.t 23) 1⟩,
 ⟨(some 30), none, false, .ext (.t 23) 2⟩,
 ⟨(some 6), none, false, .mov (.t 28)⟩,
 ⟨(some 7), none, false, .mov (.t 29)⟩,
 ⟨(some 8), none, false, .mov (.t 30)⟩])
 (.seq
 (.seq
 (.reg false [0, 4, 5, 6, 32] [⟨(some 31), none, false, .mov (.t 8)⟩,
 ⟨(some 32), none, false, .un .not (.t 31)⟩])
 (.cond (.t 32)
 (.exit 0)
 .skip))
 (.seq
 (.reg false [0, 4, 5, 6, 9] [⟨(some 34), none, false, .mov (.t 6)⟩,
 ⟨(some 35), none, true, .call 72 [(.t 34)]⟩,
 ⟨(some 33), none, false, .mov (.t 35)⟩,
 ⟨(some 36), none, false, .ext (.t 33) 0⟩,
 ⟨(some 37), none, false, .ext (.t 33) 1⟩,
 ⟨(some 9), none, false, .mov (.t 36)⟩,
 ⟨(some 10), none, false, .mov (.t 37)⟩])
 (.seq
 (.reg false [0, 4, 5, 6, 12] [⟨(some 39), none, false, .mov (.t 9)⟩,
 ⟨(some 40), none, true, .call 71 [(.t 39), (.k (.d (.str [32])))]⟩,
 ⟨(some 38), none, false, .mov (.t 40)⟩,
 ⟨(some 41), none, false, .ext (.t 38) 0⟩,
 ⟨(some 42), none, false, .ext (.t 38) 1⟩,
 ⟨(some 43), none, false, .ext (.t 38) 2⟩,
 ⟨(some 11), none, false, .mov (.t 41)⟩,
 ⟨(some 12), none, false, .mov (.t 42)⟩,
 ⟨(some 13), none, false, .mov (.t 43)⟩])
 (.seq
 (.reg false [0, 4, 5, 6, 14, 15] [⟨(some 45), none, false, .mov (.t 12)⟩,
 ⟨(some 46), none, true, .call 71 [(.t 45), (.k (.d (.str [64])))]⟩,
 ⟨(some 44), none, false, .mov (.t 46)⟩,
 ⟨(some 47), none, false, .ext (.t 44) 0⟩,
 ⟨(some 48), none, false, .ext (.t 44) 1⟩,
 ⟨(some 49), none, false, .ext (.t 44) 2⟩,
 ⟨(some 14), none, false, .mov (.t 47)⟩,
 ⟨(some 15), none, false, .mov (.t 48)⟩,
 ⟨(some 16), none, false, .mov (.t 49)⟩])
 (.seq
 (.reg false [0, 4, 5, 6, 17] [⟨(some 50), none, false, .mov (.t 14)⟩,
 ⟨(some 51), none, false, .mov (.t 15)⟩,
 ⟨(some 52), none, true, .bld (.cons (.str []) (.cons (.str []) .nil)) [(0, (.t 50)), (1, (.t 51))]⟩,
 ⟨(some 17), none, true, .alloc (.st (.cons (.str []) (.cons (.str []) .nil)))⟩,
 ⟨none, none, true, .st 2 (.t 17) (.t 52)⟩])
 (.seq
 (.seq
 (.reg false [0, 4, 5, 6, 17, 18, 19] [⟨(some 54), none, false, .mov (.t 4)⟩,
 ⟨(some 55), none, false, .len false (.t 54)⟩,
 ⟨(some 56), none, false, .ld (some 2) (.t 17)⟩,
 ⟨(some 57), none, true, .call 31 [(.t 55), (.t 56)]⟩,
 ⟨(some 53), none, false, .mov (.t 57)⟩,
 ⟨(some 58), none, false, .ext (.t 53) 0⟩,
 ⟨(some 59), none, false, .ext (.t 53) 1⟩,
 ⟨(some 18), none, false, .mov (.t 58)⟩,
 ⟨(some 19), none, false, .mov (.t 59)⟩])
 (.seq
 (.reg false [0, 4, 5, 6, 17, 67] [⟨(some 60), none, false, .mov (.t 19)⟩,
 ⟨(some 61), none, false, .un .not (.t 60)⟩,
 ⟨(some 62), none, false, .mov (.t 61)⟩,
 ⟨(some 63), (some (62, false)), false, .mov (.t 18)⟩,
 ⟨(some 64), (some (62, false)), false, .mov (.t 6)⟩,
 ⟨(some 65), (some (62, false)), false, .bin .add (.t 64) (.k (.d (.str [10])))⟩,
 ⟨(some 66), (some (62, false)), false, .bin .neq (.t 63) (.t 65)⟩,
 ⟨(some 67), none, false, .pick (.t 62) (.k (.d (.bool true))) (.t 66)⟩])
 (.cond (.t 67)
 (.exit 0)
 .skip)))
 (.seq
 (.reg false [0, 4, 5, 6] [⟨(some 68), none, false, .mov (.t 4)⟩,
 ⟨(some 69), none, false, .ld (some 2) (.t 17)⟩,
 ⟨(some 70), none, true, .bs 2 1 (.st (.cons (.str []) (.cons (.str []) .nil))) [(0, (.t 69))]⟩,
 ⟨(some 71), none, true, .app 2 32 (.t 68) (.t 70)⟩,
 ⟨(some 4), none, false, .mov (.t 71)⟩])
 (.reg false [0, 4, 5] [⟨(some 72), none, false, .mov (.t 5)⟩,
 ⟨(some 73), none, false, .mov (.t 6)⟩,
 ⟨(some 74), none, false, .len true (.t 73)⟩,
 ⟨(some 75), none, false, .bin .add (.t 74) (.k (.d (.int .i64 1)))⟩,
 ⟨(some 76), none, false, .bin .add (.t 72) (.t 75)⟩,
 ⟨(some 5), none, false, .mov (.t 76)⟩])))))))))))))
 (.seq
 (.reg false [2, 3] [⟨(some 77), none, false, .mov (.t 4)⟩,
 ⟨(some 78), none, false, .mov (.t 5)⟩,
 ⟨(some 2), none, false, .mov (.t 77)⟩,
 ⟨(some 3), none, false, .mov (.t 78)⟩])
 .ret)))))
theorem c57 : (Go.Proofs.Tryd.f57).body.bind (comp prog.P (1, (Go.Proofs.Tryd.f57).ntmps) lv57) = some m57 := by kernel_rfl
theorem r57 : resOK prog.P (Go.Proofs.Tryd.f57).results.toList = true := by kernel_rfl

/-- impl.isPlain -/
def lv59 : List (Nat × List Nat) := [(0, [0]), (1, [0, 5, 6]), (2, [0, 5, 6, 7]), (3, [0, 3, 5, 6]), (4, [0, 5, 6, 24]), (5, [2]), (6, [0, 5, 6]), (7, [2])]
def m59 : MC :=
  (.seq
 (.reg false [0] [⟨(some 2), none, false, .mov (.k (.d (.bool false)))⟩])
 (.seq
 (.seq
 (.reg false [0, 5, 6] [⟨(some 4), none, false, .mov (.t 0)⟩,
 ⟨(some 5), none, false, .len true (.t 4)⟩,
 ⟨(some 6), none, false, .mov (.k (.d (.int .i64 0)))⟩])
 (.block 0
 (.loop
 (.seq
 (.reg false [0, 5, 6, 7] [⟨(some 7), none, false, .bin .lss (.t 6) (.t 5)⟩])
 (.seq
 (.cond (.t 7)
 .skip
 (.exit 0))
 (.seq
 (.block 1
 (.seq
 (.reg false [0, 3, 5, 6] [⟨(some 8), none, false, .mov (.t 6)⟩,
 ⟨(some 3), none, false, .mov (.t 8)⟩])
 (.seq
 (.reg false [0, 5, 6, 24] [⟨(some 9), none, false, .mov (.t 0)⟩,
 ⟨(some 10), none, false, .mov (.t 3)⟩,
 ⟨(some 11), none, false, .ix (.t 9) (.t 10)⟩,
 ⟨(some 12), none, false, .bin .lss (.t 11) (.k (.d (.int .u8 32)))⟩,
 ⟨(some 13), none, false, .mov (.t 12)⟩,
 ⟨(some 14), (some (13, false)), false, .mov (.t 0)⟩,
 ⟨(some 15), (some (13, false)), false, .mov (.t 3)⟩,
 ⟨(some 16), (some (13, false)), false, .ix (.t 14) (.t 15)⟩,
 ⟨(some 17), (some (13, false)), false, .bin .gtr (.t 16) (.k (.d (.int .u8 126)))⟩,
 ⟨(some 18), none, false, .pick (.t 13) (.k (.d (.bool true))) (.t 17)⟩,
 ⟨(some 19), none, false, .mov (.t 18)⟩,
 ⟨(some 20), (some (19, false)), false, .mov (.t 0)⟩,
 ⟨(some 21), (some (19, false)), false, .mov (.t 3)⟩,
 ⟨(some 22), (some (19, false)), false, .ix (.t 20) (.t 21)⟩,
 ⟨(some 23), (some (19, false)), false, .bin .eql (.t 22) (.k (.d (.int .u8 35)))⟩,
 ⟨(some 24), none, false, .pick (.t 19) (.k (.d (.bool true))) (.t 23)⟩])
 (.cond (.t 24)
 (.seq
 (.reg false [2] [⟨(some 2), none, false, .mov (.k (.d (.bool false)))⟩])
 .ret)
 .skip))))
 (.reg false [0, 5, 6] [⟨(some 25), none, false, .bin .add (.t 6) (.k (.d (.int .i64 1)))⟩,
 ⟨(some 6), none, false, .mov (.t 25)⟩])))))))
 (.seq
 (.reg false [2] [⟨(some 2), none, false, .mov (.k (.d (.bool true)))⟩])
 .ret)))
theorem c59 : (Go.Proofs.Tryd.f59).body.bind (comp prog.P (1, (Go.Proofs.Tryd.f59).ntmps) lv59) = some m59 := by kernel_rfl
theorem r59 : resOK prog.P (Go.Proofs.Tryd.f59).results.toList = true := by kernel_rfl

/-- spec.l1Split -/
def lv61 : List (Nat × List Nat) := [(0, [0, 1]), (1, [0, 1, 5]), (2, [0, 1, 5, 6]), (3, [0, 1, 5, 6, 7]), (4, [0, 1, 5, 6, 7, 12]), (5, [0, 1, 5, 6, 7]), (6, [0, 1, 5, 6, 7, 19]), (7, [0, 1, 5, 7]), (8, [0, 1, 5, 6, 7]), (9, [4])]
def m61 : MC :=
  (.seq
 (.reg false [0, 1] [⟨(some 4), none, false, .mov (.k .nil)⟩])
 (.seq
 (.reg false [0, 1, 5] [⟨(some 8), none, true, .bs 1 0 (.str []) []⟩,
 ⟨(some 5), none, false, .mov (.t 8)⟩])
 (.seq
 (.reg false [0, 1, 5, 6] [⟨(some 6), none, false, .mov (.k (.d (.int .i64 0)))⟩])
 (.seq
 (.seq
 (.reg false [0, 1, 5, 6, 7] [⟨(some 7), none, false, .mov (.k (.d (.int .i64 0)))⟩])
 (.block 0
 (.loop
 (.seq
 (.seq
 (.reg false [0, 1, 5, 6, 7, 12] [⟨(some 9), none, false, .mov (.t 7)⟩,
 ⟨(some 10), none, false, .mov (.t 0)⟩,
 ⟨(some 11), none, false, .len true (.t 10)⟩,
 ⟨(some 12), none, false, .bin .lss (.t 9) (.t 11)⟩])
 (.cond (.t 12)
 .skip
 (.exit 0)))
 (.seq
 (.block 1
 (.seq
 (.reg false [0, 1, 5, 6, 7, 19] [⟨(some 15), none, false, .mov (.t 0)⟩,
 ⟨(some 16), none, false, .mov (.t 7)⟩,
 ⟨(some 17), none, false, .ix (.t 15) (.t 16)⟩,
 ⟨(some 18), none, false, .mov (.t 1)⟩,
 ⟨(some 19), none, false, .bin .eql (.t 17) (.t 18)⟩])
 (.cond (.t 19)
 (.seq
 (.reg false [0, 1, 5, 7] [⟨(some 20), none, false, .mov (.t 5)⟩,
 ⟨(some 21), none, false, .mov (.t 0)⟩,
 ⟨(some 22), none, false, .mov (.t 6)⟩,
 ⟨(some 23), none, false, .mov (.t 7)⟩,
 ⟨(some 24), none, false, .sls (.t 21) (some (.t 22)) (some (.t 23))⟩,
 ⟨(some 25), none, true, .bs 1 1 (.str []) [(0, (.t 24))]⟩,
 ⟨(some 26), none, true, .app 1 16 (.t 20) (.t 25)⟩,
 ⟨(some 5), none, false, .mov (.t 26)⟩])
 (.reg false [0, 1, 5, 6, 7] [⟨(some 27), none, false, .mov (.t 7)⟩,
 ⟨(some 28), none, false, .bin .add (.t 27) (.k (.d (.int .i64 1)))⟩,
 ⟨(some 6), none, false, .mov (.t 28)⟩]))
 .skip)))
 (.reg false [0, 1, 5, 6, 7] [⟨(some 13), none, false, .mov (.t 7)⟩,
 ⟨(some 14), none, false, .bin .add (.t 13) (.k (.d (.int .i64 1)))⟩,
 ⟨(some 7), none, false, .mov (.t 14)⟩]))))))
 (.seq
 (.reg false [4] [⟨(some 29), none, false, .mov (.t 5)⟩,
 ⟨(some 30), none, false, .mov (.t 0)⟩,
 ⟨(some 31), none, false, .mov (.t 6)⟩,
 ⟨(some 32), none, false, .sls (.t 30) (some (.t 31)) none⟩,
 ⟨(some 33), none, true, .bs 1 1 (.str []) [(0, (.t 32))]⟩,
 ⟨(some 34), none, true, .app 1 16 (.t 29) (.t 33)⟩,
 ⟨(some 4), none, false, .mov (.t 34)⟩])
 .ret)))))
theorem c61 : (Go.Proofs.Tryd.f61).body.bind (comp prog.P (2, (Go.Proofs.Tryd.f61).ntmps) lv61) = some m61 := by kernel_rfl
theorem r61 : resOK prog.P (Go.Proofs.Tryd.f61).results.toList = true := by kernel_rfl

/-- spec.l27Read -/
def lv62 : List (Nat × List Nat) := [(0, [0, 1, 4]), (1, [0, 1, 4, 6]), (2, [0, 1, 4, 6, 7]), (3, [0, 1, 4, 6, 7, 30]), (4, [4, 5]), (5, [0, 1, 4, 8]), (6, [0, 1, 4, 8, 9]), (7, [0, 1, 4, 8, 9, 44]), (8, [4, 5]), (9, [0, 1, 4, 10]), (10, [4, 5]), (1000010, [2, 11, 12, 1, 0, 2, 1, 2, 2, 1, 3, 1, 4, 1, 7, 1, 8, 2, 5, 2, 6, 1, 9, 1, 10, 2, 11, 2, 12, 0])]
def m62 : MC :=
  (.seq
 (.reg false [0, 1, 4] [⟨(some 4), none, true, .alloc (.st (.cons (.str []) (.cons (.str []) .nil)))⟩,
 ⟨(some 5), none, false, .mov (.k (.d (.bool false)))⟩])
 (.seq
 (.reg false [0, 1, 4, 6] [⟨(some 11), none, false, .mov (.t 1)⟩,
 ⟨(some 12), none, true, .call 66 [(.t 11)]⟩,
 ⟨(some 13), none, false, .bin .add (.t 12) (.k (.d (.str [32])))⟩,
 ⟨(some 6), none, false, .mov (.t 13)⟩])
 (.seq
 (.reg false [0, 1, 4, 6, 7] [⟨(some 14), none, false, .mov (.t 0)⟩,
 ⟨(some 15), none, true, .call 61 [(.t 14), (.k (.d (.int .u8 35)))]⟩,
 ⟨(some 16), none, false, .ia 1 (.t 15) (.k (.d (.int .i64 0)))⟩,
 ⟨(some 17), none, false, .ld none (.t 16)⟩,
 ⟨(some 7), none, false, .mov (.t 17)⟩])
 (.seq
 (.seq
 (.reg false [0, 1, 4, 6, 7, 30] [⟨(some 18), none, false, .mov (.t 7)⟩,
 ⟨(some 19), none, false, .len true (.t 18)⟩,
 ⟨(some 20), none, false, .mov (.t 6)⟩,
 ⟨(some 21), none, false, .len true (.t 20)⟩,
 ⟨(some 22), none, false, .bin .lss (.t 19) (.t 21)⟩,
 ⟨(some 23), none, false, .mov (.t 22)⟩,
 ⟨(some 24), (some (23, false)), false, .mov (.t 7)⟩,
 ⟨(some 25), (some (23, false)), false, .mov (.t 6)⟩,
 ⟨(some 26), (some (23, false)), false, .len true (.t 25)⟩,
 ⟨(some 27), (some (23, false)), false, .sls (.t 24) none (some (.t 26))⟩,
 ⟨(some 28), (some (23, false)), false, .mov (.t 6)⟩,
 ⟨(some 29), (some (23, false)), false, .bin .neq (.t 27) (.t 28)⟩,
 ⟨(some 30), none, false, .pick (.t 23) (.k (.d (.bool true))) (.t 29)⟩])
 (.cond (.t 30)
 (.seq
 (.reg false [4, 5] [⟨(some 31), none, true, .bld (.cons (.str []) (.cons (.str []) .nil)) []⟩,
 ⟨none, none, true, .st 2 (.t 4) (.t 31)⟩,
 ⟨(some 5), none, false, .mov (.k (.d (.bool false)))⟩])
 .ret)
 .skip))
 (.seq
 (.reg false [0, 1, 4, 8] [⟨(some 32), none, false, .mov (.t 7)⟩,
 ⟨(some 33), none, false, .mov (.t 6)⟩,
 ⟨(some 34), none, false, .len true (.t 33)⟩,
 ⟨(some 35), none, false, .sls (.t 32) (some (.t 34)) none⟩,
 ⟨(some 8), none, false, .mov (.t 35)⟩])
 (.seq
 (.reg false [0, 1, 4, 8, 9] [⟨(some 36), none, false, .mov (.t 8)⟩,
 ⟨(some 37), none, true, .call 61 [(.t 36), (.k (.d (.int .u8 64)))]⟩,
 ⟨(some 38), none, false, .ia 1 (.t 37) (.k (.d (.int .i64 0)))⟩,
 ⟨(some 39), none, false, .ld none (.t 38)⟩,
 ⟨(some 9), none, false, .mov (.t 39)⟩])
 (.seq
 (.seq
 (.reg false [0, 1, 4, 8, 9, 44] [⟨(some 40), none, false, .mov (.t 9)⟩,
 ⟨(some 41), none, false, .len true (.t 40)⟩,
 ⟨(some 42), none, false, .mov (.t 8)⟩,
 ⟨(some 43), none, false, .len true (.t 42)⟩,
 ⟨(some 44), none, false, .bin .eql (.t 41) (.t 43)⟩])
 (.cond (.t 44)
 (.seq
 (.reg false [4, 5] [⟨(some 45), none, true, .bld (.cons (.str []) (.cons (.str []) .nil)) []⟩,
 ⟨none, none, true, .st 2 (.t 4) (.t 45)⟩,
 ⟨(some 5), none, false, .mov (.k (.d (.bool false)))⟩])
 .ret)
 .skip))
 (.seq
 (.reg false [0, 1, 4, 10] [⟨(some 46), none, false, .mov (.t 9)⟩,
 ⟨(some 47), none, false, .mov (.t 8)⟩,
 ⟨(some 48), none, false, .mov (.t 9)⟩,
 ⟨(some 49), none, false, .len true (.t 48)⟩,
 ⟨(some 50), none, false, .bin .add (.t 49) (.k (.d (.int .i64 1)))⟩,
 ⟨(some 51), none, false, .sls (.t 47) (some (.t 50)) none⟩,
 ⟨(some 52), none, true, .bld (.cons (.str []) (.cons (.str []) .nil)) [(0, (.t 46)), (1, (.t 51))]⟩,
 ⟨(some 10), none, true, .alloc (.st (.cons (.str []) (.cons (.str []) .nil)))⟩,
 ⟨none, none, true, .st 2 (.t 10) (.t 52)⟩])
 (.seq
 (.any [11, 12] [4, 5] (.q 0 ⟨(some 53), none, false, .ld (some 2) (.t 10)⟩ (.e 1 ⟨(some 54), none, false, .ld (some 2) (.t 10)⟩ (.e 2 ⟨(some 55), none, true, .call 45 [(.t 54)]⟩ (.q 3 ⟨(some 56), none, false, .mov (.t 55)⟩ (.q 4 ⟨(some 57), (some (56, true)), false, .mov (.t 1)⟩ (.q 7 ⟨(some 60), (some (56, true)), false, .mov (.t 0)⟩ (.q 8 ⟨(some 61), (some (56, true)), false, .bin .add (.t 60) (.k (.d (.str [10])))⟩ (.e 5 ⟨(some 58), (some (56, true)), false, .ld (some 2) (.t 10)⟩ (.e 6 ⟨(some 59), (some (56, true)), true, .call 46 [(.t 57), (.t 58)]⟩ (.q 9 ⟨(some 62), (some (56, true)), false, .bin .eql (.t 59) (.t 61)⟩ (.q 10 ⟨(some 63), none, false, .pick (.t 56) (.t 62) (.k (.d (.bool false)))⟩ (.e 11 ⟨none, none, true, .st 2 (.t 4) (.t 53)⟩ (.e 12 ⟨(some 5), none, false, .mov (.t 63)⟩ .done))))))))))))))
 .ret)))))))))
theorem c62 : (Go.Proofs.Tryd.f62).body.bind (comp prog.P (2, (Go.Proofs.Tryd.f62).ntmps) lv62) = some m62 := by kernel_rfl
theorem r62 : resOK prog.P (Go.Proofs.Tryd.f62).results.toList = true := by kernel_rfl

/-- spec.l27Plain -/
def lv63 : List (Nat × List Nat) := [(0, [0, 1]), (1, [0, 1, 5]), (2, [0, 1, 5, 9]), (3, [0, 1, 5]), (4, [0, 1, 5, 23]), (5, [4]), (6, [4])]
def m63 : MC :=
  (.seq
 (.reg false [0, 1] [⟨(some 4), none, false, .mov (.k (.d (.bool false)))⟩])
 (.seq
 (.seq
 (.reg false [0, 1, 5] [⟨(some 5), none, false, .mov (.k (.d (.int .i64 0)))⟩])
 (.block 0
 (.loop
 (.seq
 (.seq
 (.reg false [0, 1, 5, 9] [⟨(some 6), none, false, .mov (.t 5)⟩,
 ⟨(some 7), none, false, .mov (.t 0)⟩,
 ⟨(some 8), none, false, .len true (.t 7)⟩,
 ⟨(some 9), none, false, .bin .lss (.t 6) (.t 8)⟩])
 (.cond (.t 9)
 .skip
 (.exit 0)))
 (.seq
 (.block 1
 (.seq
 (.reg false [0, 1, 5, 23] [⟨(some 12), none, false, .mov (.t 0)⟩,
 ⟨(some 13), none, false, .mov (.t 5)⟩,
 ⟨(some 14), none, false, .ix (.t 12) (.t 13)⟩,
 ⟨(some 15), none, false, .conv .i64 (.t 14)⟩,
 ⟨(some 16), none, true, .call 47 [(.t 15), (.k (.d (.int .i64 32))), (.k (.d (.int .i64 126)))]⟩,
 ⟨(some 17), none, false, .un .not (.t 16)⟩,
 ⟨(some 18), none, false, .mov (.t 17)⟩,
 ⟨(some 19), (some (18, false)), false, .mov (.t 0)⟩,
 ⟨(some 20), (some (18, false)), false, .mov (.t 5)⟩,
 ⟨(some 21), (some (18, false)), false, .ix (.t 19) (.t 20)⟩,
 ⟨(some 22), (some (18, false)), false, .bin .eql (.t 21) (.k (.d (.int .u8 35)))⟩,
 ⟨(some 23), none, false, .pick (.t 18) (.k (.d (.bool true))) (.t 22)⟩])
 (.cond (.t 23)
 (.seq
 (.reg false [4] [⟨(some 4), none, false, .mov (.k (.d (.bool false)))⟩])
 .ret)
 .skip)))
 (.reg false [0, 1, 5] [⟨(some 10), none, false, .mov (.t 5)⟩,
 ⟨(some 11), none, false, .bin .add (.t 10) (.k (.d (.int .i64 1)))⟩,
 ⟨(some 5), none, false, .mov (.t 11)⟩]))))))
 (.seq
 (.reg false [4] [⟨(some 24), none, false, .mov (.t 0)⟩,
 ⟨(some 25), none, false, .len true (.t 24)⟩,
 ⟨(some 26), none, false, .mov (.t 1)⟩,
 ⟨(some 27), none, false, .bin .leq (.t 25) (.t 26)⟩,
 ⟨(some 4), none, false, .mov (.t 27)⟩])
 .ret)))
theorem c63 : (Go.Proofs.Tryd.f63).body.bind (comp prog.P (2, (Go.Proofs.Tryd.f63).ntmps) lv63) = some m63 := by kernel_rfl
theorem r63 : resOK prog.P (Go.Proofs.Tryd.f63).results.toList = true := by kernel_rfl

/-- spec.l1Stands -/
def lv64 : List (Nat × List Nat) := [(0, [0, 1]), (1, [0, 1, 5]), (2, [0, 1, 5, 9]), (3, [0, 1, 5]), (4, [0, 1, 5, 16]), (5, [4]), (6, [4])]
def m64 : MC :=
  (.seq
 (.reg false [0, 1] [⟨(some 4), none, false, .mov (.k (.d (.bool false)))⟩])
 (.seq
 (.seq
 (.reg false [0, 1, 5] [⟨(some 5), none, false, .mov (.k (.d (.int .i64 0)))⟩])
 (.block 0
 (.loop
 (.seq
 (.seq
 (.reg false [0, 1, 5, 9] [⟨(some 6), none, false, .mov (.t 5)⟩,
 ⟨(some 7), none, false, .mov (.t 0)⟩,
 ⟨(some 8), none, false, .len true (.t 7)⟩,
 ⟨(some 9), none, false, .bin .lss (.t 6) (.t 8)⟩])
 (.cond (.t 9)
 .skip
 (.exit 0)))
 (.seq
 (.block 1
 (.seq
 (.reg false [0, 1, 5, 16] [⟨(some 12), none, false, .mov (.t 0)⟩,
 ⟨(some 13), none, false, .mov (.t 5)⟩,
 ⟨(some 14), none, false, .ix (.t 12) (.t 13)⟩,
 ⟨(some 15), none, false, .mov (.t 1)⟩,
 ⟨(some 16), none, false, .bin .eql (.t 14) (.t 15)⟩])
 (.cond (.t 16)
 (.seq
 (.reg false [4] [⟨(some 4), none, false, .mov (.k (.d (.bool true)))⟩])
 .ret)
 .skip)))
 (.reg false [0, 1, 5] [⟨(some 10), none, false, .mov (.t 5)⟩,
 ⟨(some 11), none, false, .bin .add (.t 10) (.k (.d (.int .i64 1)))⟩,
 ⟨(some 5), none, false, .mov (.t 11)⟩]))))))
 (.seq
 (.reg false [4] [⟨(some 4), none, false, .mov (.k (.d (.bool false)))⟩])
 .ret)))
theorem c64 : (Go.Proofs.Tryd.f64).body.bind (comp prog.P (2, (Go.Proofs.Tryd.f64).ntmps) lv64) = some m64 := by kernel_rfl
theorem r64 : resOK prog.P (Go.Proofs.Tryd.f64).results.toList = true := by kernel_rfl

/-- spec.l1Seal -/
def lv65 : List (Nat × List Nat) := [(0, [0]), (1, [2])]
def m65 : MC :=
  (.seq
 (.reg false [0] [⟨(some 2), none, false, .mov (.k (.d (.str [])))⟩])
 (.seq
 (.reg false [2] [⟨(some 3), none, false, .mov (.t 0)⟩,
 ⟨(some 4), none, false, .bin .add (.t 3) (.k (.d (.str [35])))⟩,
 ⟨(some 5), none, false, .mov (.t 0)⟩,
 ⟨(some 6), none, true, .call 74 [(.t 5)]⟩,
 ⟨(some 7), none, true, .call 66 [(.t 6)]⟩,
 ⟨(some 8), none, false, .bin .add (.t 4) (.t 7)⟩,
 ⟨(some 2), none, false, .mov (.t 8)⟩])
 .ret))
theorem c65 : (Go.Proofs.Tryd.f65).body.bind (comp prog.P (1, (Go.Proofs.Tryd.f65).ntmps) lv65) = some m65 := by kernel_rfl
theorem r65 : resOK prog.P (Go.Proofs.Tryd.f65).results.toList = true := by kernel_rfl

/-- spec.l1Num -/
def lv66 : List (Nat × List Nat) := [(0, [0]), (1, [0, 4]), (2, [2]), (3, [0, 10]), (4, [2]), (5, [2])]
def m66 : MC :=
  (.seq
 (.reg false [0] [⟨(some 2), none, false, .mov (.k (.d (.str [])))⟩])
 (.seq
 (.seq
 (.reg false [0, 4] [⟨(some 3), none, false, .mov (.t 0)⟩,
 ⟨(some 4), none, false, .bin .lss (.t 3) (.k (.d (.int .i64 0)))⟩])
 (.cond (.t 4)
 (.seq
 (.reg false [2] [⟨(some 5), none, false, .mov (.t 0)⟩,
 ⟨(some 6), none, false, .un .neg (.t 5)⟩,
 ⟨(some 7), none, true, .call 66 [(.t 6)]⟩,
 ⟨(some 8), none, false, .bin .add (.k (.d (.str [45]))) (.t 7)⟩,
 ⟨(some 2), none, false, .mov (.t 8)⟩])
 .ret)
 .skip))
 (.seq
 (.seq
 (.reg false [0, 10] [⟨(some 9), none, false, .mov (.t 0)⟩,
 ⟨(some 10), none, false, .bin .lss (.t 9) (.k (.d (.int .i64 10)))⟩])
 (.cond (.t 10)
 (.seq
 (.reg false [2] [⟨(some 11), none, false, .mov (.t 0)⟩,
 ⟨(some 12), none, false, .mov (.t 0)⟩,
 ⟨(some 13), none, false, .bin .add (.t 12) (.k (.d (.int .i64 1)))⟩,
 ⟨(some 14), none, false, .sls (.k (.d (.str [48, 49, 50, 51, 52, 53, 54, 55, 56, 57]))) (some (.t 11)) (some (.t 13))⟩,
 ⟨(some 2), none, false, .mov (.t 14)⟩])
 .ret)
 .skip))
 (.seq
 (.reg true [2] [⟨(some 15), none, false, .mov (.t 0)⟩,
 ⟨(some 16), none, false, .bin .quo (.t 15) (.k (.d (.int .i64 10)))⟩,
 ⟨(some 17), none, false, .callP 66 [(.t 16)]⟩,
 ⟨(some 18), none, false, .mov (.t 0)⟩,
 ⟨(some 19), none, false, .bin .rem (.t 18) (.k (.d (.int .i64 10)))⟩,
 ⟨(some 20), none, false, .mov (.t 0)⟩,
 ⟨(some 21), none, false, .bin .rem (.t 20) (.k (.d (.int .i64 10)))⟩,
 ⟨(some 22), none, false, .bin .add (.t 21) (.k (.d (.int .i64 1)))⟩,
 ⟨(some 23), none, false, .sls (.k (.d (.str [48, 49, 50, 51, 52, 53, 54, 55, 56, 57]))) (some (.t 19)) (some (.t 22))⟩,
 ⟨(some 24), none, false, .bin .add (.t 17) (.t 23)⟩,
 ⟨(some 2), none, false, .mov (.t 24)⟩])
 .ret))))
theorem c66 : (Go.Proofs.Tryd.f66).body.bind (comp prog.P (1, (Go.Proofs.Tryd.f66).ntmps) lv66) = some m66 := by kernel_rfl
theorem r66 : resOK prog.P (Go.Proofs.Tryd.f66).results.toList = true := by kernel_rfl

/-- impl.checksum -/
def lv68 : List (Nat × List Nat) := [(0, [0]), (1, [0, 3]), (2, [0, 3, 6, 7]), (3, [0, 3, 6, 7, 8]), (4, [0, 3, 4, 6, 7]), (5, [0, 3, 6, 7]), (6, [0, 3, 6, 7]), (7, [2])]
def m68 : MC :=
  (.seq
 (.reg false [0] [⟨(some 2), none, false, .mov (.k (.d (.int .i64 0)))⟩])
 (.seq
 (.reg false [0, 3] [⟨(some 3), none, false, .mov (.k (.d (.int .i64 7)))⟩])
 (.seq
 (.seq
 (.reg false [0, 3, 6, 7] [⟨(some 5), none, false, .mov (.t 0)⟩,
 ⟨(some 6), none, false, .len true (.t 5)⟩,
 ⟨(some 7), none, false, .mov (.k (.d (.int .i64 0)))⟩])
 (.block 0
 (.loop
 (.seq
 (.reg false [0, 3, 6, 7, 8] [⟨(some 8), none, false, .bin .lss (.t 7) (.t 6)⟩])
 (.seq
 (.cond (.t 8)
 .skip
 (.exit 0))
 (.seq
 (.block 1
 (.seq
 (.reg false [0, 3, 4, 6, 7] [⟨(some 9), none, false, .mov (.t 7)⟩,
 ⟨(some 4), none, false, .mov (.t 9)⟩])
 (.reg false [0, 3, 6, 7] [⟨(some 10), none, false, .mov (.t 3)⟩,
 ⟨(some 11), none, false, .bin .mul (.k (.d (.int .i64 41))) (.t 10)⟩,
 ⟨(some 12), none, false, .mov (.t 0)⟩,
 ⟨(some 13), none, false, .mov (.t 4)⟩,
 ⟨(some 14), none, false, .ix (.t 12) (.t 13)⟩,
 ⟨(some 15), none, false, .conv .i64 (.t 14)⟩,
 ⟨(some 16), none, false, .bin .add (.t 11) (.t 15)⟩,
 ⟨(some 17), none, false, .bin .add (.t 16) (.k (.d (.int .i64 1)))⟩,
 ⟨(some 18), none, false, .bin .rem (.t 17) (.k (.d (.int .i64 999979)))⟩,
 ⟨(some 3), none, false, .mov (.t 18)⟩])))
 (.reg false [0, 3, 6, 7] [⟨(some 19), none, false, .bin .add (.t 7) (.k (.d (.int .i64 1)))⟩,
 ⟨(some 7), none, false, .mov (.t 19)⟩])))))))
 (.seq
 (.reg false [2] [⟨(some 20), none, false, .mov (.t 3)⟩,
 ⟨(some 2), none, false, .mov (.t 20)⟩])
 .ret))))
theorem c68 : (Go.Proofs.Tryd.f68).body.bind (comp prog.P (1, (Go.Proofs.Tryd.f68).ntmps) lv68) = some m68 := by kernel_rfl
theorem r68 : resOK prog.P (Go.Proofs.Tryd.f68).results.toList = true := by kernel_rfl

/-- impl.VerifyChecksum -/
def lv72 : List (Nat × List Nat) := [(0, [0]), (1, [0, 4]), (2, [0, 4, 7, 8]), (3, [4, 26]), (4, [2, 3]), (5, [2, 3])]
def m72 : MC :=
  (.seq
 (.reg false [0] [⟨(some 2), none, false, .mov (.k (.d (.str [])))⟩,
 ⟨(some 3), none, false, .mov (.k (.d (.bool false)))⟩])
 (.seq
 (.reg false [0, 4] [⟨(some 10), none, false, .mov (.t 0)⟩,
 ⟨(some 11), none, true, .call 71 [(.t 10), (.k (.d (.str [35])))]⟩,
 ⟨(some 9), none, false, .mov (.t 11)⟩,
 ⟨(some 12), none, false, .ext (.t 9) 0⟩,
 ⟨(some 13), none, false, .ext (.t 9) 1⟩,
 ⟨(some 14), none, false, .ext (.t 9) 2⟩,
 ⟨(some 4), none, false, .mov (.t 12)⟩,
 ⟨(some 5), none, false, .mov (.t 13)⟩,
 ⟨(some 6), none, false, .mov (.t 14)⟩])
 (.seq
 (.seq
 (.reg false [0, 4, 7, 8] [⟨(some 16), none, false, .mov (.t 4)⟩,
 ⟨(some 17), none, true, .call 51 [(.t 16)]⟩,
 ⟨(some 15), none, false, .mov (.t 17)⟩,
 ⟨(some 18), none, false, .ext (.t 15) 0⟩,
 ⟨(some 19), none, false, .ext (.t 15) 1⟩,
 ⟨(some 7), none, false, .mov (.t 18)⟩,
 ⟨(some 8), none, false, .mov (.t 19)⟩])
 (.seq
 (.reg false [4, 26] [⟨(some 20), none, false, .mov (.t 8)⟩,
 ⟨(some 21), none, false, .un .not (.t 20)⟩,
 ⟨(some 22), none, false, .mov (.t 21)⟩,
 ⟨(some 23), (some (22, false)), false, .mov (.t 7)⟩,
 ⟨(some 24), (some (22, false)), false, .mov (.t 0)⟩,
 ⟨(some 25), (some (22, false)), false, .bin .neq (.t 23) (.t 24)⟩,
 ⟨(some 26), none, false, .pick (.t 22) (.k (.d (.bool true))) (.t 25)⟩])
 (.cond (.t 26)
 (.seq
 (.reg false [2, 3] [⟨(some 2), none, false, .mov (.k (.d (.str [])))⟩,
 ⟨(some 3), none, false, .mov (.k (.d (.bool false)))⟩])
 .ret)
 .skip)))
 (.seq
 (.reg false [2, 3] [⟨(some 27), none, false, .mov (.t 4)⟩,
 ⟨(some 2), none, false, .mov (.t 27)⟩,
 ⟨(some 3), none, false, .mov (.k (.d (.bool true)))⟩])
 .ret))))
theorem c72 : (Go.Proofs.Tryd.f72).body.bind (comp prog.P (1, (Go.Proofs.Tryd.f72).ntmps) lv72) = some m72 := by kernel_rfl
theorem r72 : resOK prog.P (Go.Proofs.Tryd.f72).results.toList = true := by kernel_rfl

end Go.Pe.Tryd
