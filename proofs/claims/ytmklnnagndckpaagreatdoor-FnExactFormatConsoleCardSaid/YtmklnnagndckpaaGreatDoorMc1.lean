/-
The compact code of the functions that the law reaches, printed by gen.py, each with the proof that the machine's code is compiled to it.
-/
import Derived.Test.YtmklnnagndckpaaGreatDoorPeC
import Derived.Lib.ItoaNum
import Derived.Lib.LaidTab
import Derived.Test.YtmklnnagndckpaaGreatDoorProg
import Derived.KernelRfl
set_option maxRecDepth 100000
namespace Go.Pe.Tryz
open Go.Pe

/-- of the start-up memory it is asked that the library's table of powers of ten stands, that a number of the library's is there. -/
theorem tab_stab {P : Program} {n : String} {k : IntKind} {zs : List Int} {g : Nat} (hg : P.globalNamed n = some g) (w w' : World) (_ : w.heap.size ≤ w'.heap.size) (hk : ∀ b, b < w.heap.size → w'.heap[b]? = w.heap[b]?) (h : Go.Lib.TabIs P w n k zs) : Go.Lib.TabIs P w' n k zs := by
  unfold Go.Lib.TabIs World.var? at h ⊢
  rw [hg] at h ⊢
  simp only [Option.bind_some] at h ⊢
  by_cases hb : g < w.heap.size
  · rw [hk g hb]; exact h
  · rw [Array.getElem?_eq_none (by omega)] at h
    simp at h
theorem cell_stab (g : Nat) (w w' : World) (hk : ∀ b, b < w.heap.size → w'.heap[b]? = w.heap[b]?) (h : ∃ m, w.cell? ⟨g, 0, none⟩ = some (.int .i64 m)) : ∃ m, w'.cell? ⟨g, 0, none⟩ = some (.int .i64 m) := by
  obtain ⟨m, h⟩ := h
  by_cases hb : g < w.heap.size
  · refine ⟨m, ?_⟩
    unfold World.cell? at h ⊢
    rw [hk g hb]; exact h
  · have hn : w.heap[g]? = none := Array.getElem?_eq_none (by omega)
    simp [World.cell?, hn] at h
noncomputable def prog : PG := ⟨Go.Proofs.Tryz.prog, fun w => (Go.Lib.TabIs Go.Proofs.Tryz.prog w "internal/strconv.uint64pow10" .u64 Go.Lib.pow10Tab) ∧ (∃ m, w.cell? ⟨1, 0, none⟩ = some (.int .i64 m)), fun w w' hs hk h => ⟨tab_stab (show Go.Proofs.Tryz.prog.globalNamed "internal/strconv.uint64pow10" = some 0 by kernel_rfl) w w' hs hk h.1, cell_stab 1 w w' hk h.2⟩⟩
theorem tabOf {w : World} (h : prog.F w) : Go.Lib.TabIs Go.Proofs.Tryz.prog w "internal/strconv.uint64pow10" .u64 Go.Lib.pow10Tab := h.1
theorem maxOf {w : World} (h : prog.F w) : ∃ m, w.cell? ⟨1, 0, none⟩ = some (.int .i64 m) := h.2

theorem sz34 : sizeOfT prog.P 34 = some 5 := by kernel_rfl

theorem sz35 : sizeOfT prog.P 35 = some 3 := by kernel_rfl

theorem sz37 : sizeOfT prog.P 37 = some 8 := by kernel_rfl

theorem sz90 : sizeOfT prog.P 90 = some 4 := by kernel_rfl

theorem sz162 : sizeOfT prog.P 162 = some 2 := by kernel_rfl

/-- laws.FnExactFormatConsole -/
def lv4 : List (Nat × List Nat) := [(0, [1]), (1, [1, 3]), (2, [1, 3]), (3, [1, 13]), (4, [2]), (5, [1, 4, 5]), (6, [1, 4, 5, 6]), (7, [1, 4, 5, 6, 7, 8]), (8, [1, 6, 34]), (9, [2]), (10, [39]), (11, [2]), (12, [2])]
def m4 : MC :=
  (.seq
 (.reg false [1] [⟨(some 1), none, true, .box (.t 0)⟩,
 ⟨(some 2), none, false, .mov (.k (.d (.bool false)))⟩])
 (.seq
 (.reg false [1, 3] [⟨(some 3), none, false, .mov (.k (.d (.int .i64 1048576)))⟩])
 (.seq
 (.reg false [1, 3] [⟨(some 9), none, false, .ldv 8 (.t 1)⟩,
 ⟨(some 10), none, false, .mov (.t 3)⟩,
 ⟨(some 11), none, true, .call 9 [(.t 9), (.t 10)]⟩,
 ⟨(some 3), none, false, .mov (.t 11)⟩])
 (.seq
 (.seq
 (.reg false [1, 13] [⟨(some 12), none, false, .mov (.t 3)⟩,
 ⟨(some 13), none, false, .bin .lss (.t 12) (.k (.d (.int .i64 0)))⟩])
 (.cond (.t 13)
 (.seq
 (.reg false [2] [⟨(some 2), none, false, .mov (.k (.d (.bool true)))⟩])
 .ret)
 .skip))
 (.seq
 (.reg false [1, 4, 5] [⟨(some 15), none, false, .ldv 8 (.t 1)⟩,
 ⟨(some 16), none, true, .call 11 [(.t 15)]⟩,
 ⟨(some 17), none, true, .call 14 [(.t 16)]⟩,
 ⟨(some 14), none, false, .mov (.t 17)⟩,
 ⟨(some 18), none, false, .ext (.t 14) 0⟩,
 ⟨(some 19), none, false, .ext (.t 14) 1⟩,
 ⟨(some 4), none, false, .mov (.t 18)⟩,
 ⟨(some 5), none, false, .mov (.t 19)⟩])
 (.seq
 (.reg false [1, 4, 5, 6] [⟨(some 20), none, false, .ldv 8 (.t 1)⟩,
 ⟨(some 21), none, true, .call 11 [(.t 20)]⟩,
 ⟨(some 6), none, true, .alloc (.st (.cons (.st (.cons (.int .i64 0) (.cons (.sl true 4 .nil) (.cons (.int .i64 0) (.cons (.int .i64 0) (.cons (.sl true 1 .nil) .nil)))))) (.cons (.st (.cons (.str []) (.cons (.str []) (.cons (.int .i64 0) .nil)))) .nil)))⟩,
 ⟨none, none, true, .st 8 (.t 6) (.t 21)⟩])
 (.seq
 (.reg false [1, 4, 5, 6, 7, 8] [⟨(some 23), none, false, .ldv 8 (.t 6)⟩,
 ⟨(some 24), none, true, .call 15 [(.t 23)]⟩,
 ⟨(some 22), none, false, .mov (.t 24)⟩,
 ⟨(some 25), none, false, .ext (.t 22) 0⟩,
 ⟨(some 26), none, false, .ext (.t 22) 1⟩,
 ⟨(some 7), none, false, .mov (.t 25)⟩,
 ⟨(some 8), none, false, .mov (.t 26)⟩])
 (.seq
 (.seq
 (.reg false [1, 6, 34] [⟨(some 27), none, false, .mov (.t 7)⟩,
 ⟨(some 28), none, false, .mov (.t 4)⟩,
 ⟨(some 29), none, false, .bin .neq (.t 27) (.t 28)⟩,
 ⟨(some 30), none, false, .mov (.t 29)⟩,
 ⟨(some 31), (some (30, false)), false, .mov (.t 8)⟩,
 ⟨(some 32), (some (30, false)), false, .mov (.t 5)⟩,
 ⟨(some 33), (some (30, false)), false, .bb .neq (.t 31) (.t 32)⟩,
 ⟨(some 34), none, false, .pick (.t 30) (.k (.d (.bool true))) (.t 33)⟩])
 (.cond (.t 34)
 (.seq
 (.reg false [2] [⟨(some 2), none, false, .mov (.k (.d (.bool false)))⟩])
 .ret)
 .skip))
 (.seq
 (.seq
 (.reg true [39] [⟨(some 35), none, false, .ldv 8 (.t 6)⟩,
 ⟨(some 36), none, false, .ldv 8 (.t 1)⟩,
 ⟨(some 37), none, false, .callP 11 [(.t 36)]⟩,
 ⟨(some 38), none, false, .callP 13 [(.t 35), (.t 37)]⟩,
 ⟨(some 39), none, false, .un .not (.t 38)⟩])
 (.cond (.t 39)
 (.seq
 (.reg false [2] [⟨(some 2), none, false, .mov (.k (.d (.bool false)))⟩])
 .ret)
 .skip))
 (.seq
 (.reg false [2] [⟨(some 2), none, false, .mov (.k (.d (.bool true)))⟩])
 .ret))))))))))
theorem c4 : (Go.Proofs.Tryz.f4).body.bind (comp prog.P (1, (Go.Proofs.Tryz.f4).ntmps) lv4) = some m4 := by kernel_rfl
theorem r4 : resOK prog.P (Go.Proofs.Tryz.f4).results.toList = true := by kernel_rfl

/-- laws.szConsole -/
def lv9 : List (Nat × List Nat) := [(0, [1, 2]), (1, [1, 2]), (2, [1, 2, 10]), (3, [4]), (4, [1]), (5, [1, 16]), (6, [4]), (7, [4])]
def m9 : MC :=
  (.seq
 (.reg false [1, 2] [⟨(some 2), none, true, .box (.t 0)⟩,
 ⟨(some 4), none, false, .mov (.k (.d (.int .i64 0)))⟩])
 (.seq
 (.reg false [1, 2] [⟨(some 5), none, false, .fa 0 0 (.t 2)⟩,
 ⟨(some 6), none, false, .ldv 5 (.t 5)⟩,
 ⟨(some 7), none, false, .mov (.t 1)⟩,
 ⟨(some 8), none, true, .call 16 [(.t 6), (.t 7)]⟩,
 ⟨(some 1), none, false, .mov (.t 8)⟩])
 (.seq
 (.seq
 (.reg false [1, 2, 10] [⟨(some 9), none, false, .mov (.t 1)⟩,
 ⟨(some 10), none, false, .bin .lss (.t 9) (.k (.d (.int .i64 0)))⟩])
 (.cond (.t 10)
 (.seq
 (.reg false [4] [⟨(some 4), none, false, .mov (.k (.d (.int .i64 (-1))))⟩])
 .ret)
 .skip))
 (.seq
 (.reg false [1] [⟨(some 11), none, false, .fa 1 5 (.t 2)⟩,
 ⟨(some 12), none, false, .ld (some 3) (.t 11)⟩,
 ⟨(some 13), none, false, .mov (.t 1)⟩,
 ⟨(some 14), none, true, .call 56 [(.t 12), (.t 13)]⟩,
 ⟨(some 1), none, false, .mov (.t 14)⟩])
 (.seq
 (.seq
 (.reg false [1, 16] [⟨(some 15), none, false, .mov (.t 1)⟩,
 ⟨(some 16), none, false, .bin .lss (.t 15) (.k (.d (.int .i64 0)))⟩])
 (.cond (.t 16)
 (.seq
 (.reg false [4] [⟨(some 4), none, false, .mov (.k (.d (.int .i64 (-1))))⟩])
 .ret)
 .skip))
 (.seq
 (.reg false [4] [⟨(some 17), none, false, .mov (.t 1)⟩,
 ⟨(some 4), none, false, .mov (.t 17)⟩])
 .ret))))))
theorem c9 : (Go.Proofs.Tryz.f9).body.bind (comp prog.P (1, (Go.Proofs.Tryz.f9).ntmps) lv9) = some m9 := by kernel_rfl
theorem r9 : resOK prog.P (Go.Proofs.Tryz.f9).results.toList = true := by kernel_rfl

/-- laws.toConsole -/
def lv11 : List (Nat × List Nat) := [(0, [1, 2]), (1, [1, 2, 3]), (2, [1, 2, 3]), (3, [2, 3]), (4, [2])]
def m11 : MC :=
  (.seq
 (.reg false [1, 2] [⟨(some 1), none, true, .box (.t 0)⟩,
 ⟨(some 2), none, true, .alloc (.st (.cons (.st (.cons (.int .i64 0) (.cons (.sl true 4 .nil) (.cons (.int .i64 0) (.cons (.int .i64 0) (.cons (.sl true 1 .nil) .nil)))))) (.cons (.st (.cons (.str []) (.cons (.str []) (.cons (.int .i64 0) .nil)))) .nil)))⟩])
 (.seq
 (.reg false [1, 2, 3] [⟨(some 3), none, true, .alloc (.st (.cons (.st (.cons (.int .i64 0) (.cons (.sl true 4 .nil) (.cons (.int .i64 0) (.cons (.int .i64 0) (.cons (.sl true 1 .nil) .nil)))))) (.cons (.st (.cons (.str []) (.cons (.str []) (.cons (.int .i64 0) .nil)))) .nil)))⟩])
 (.seq
 (.reg false [1, 2, 3] [⟨(some 4), none, false, .fa 0 0 (.t 1)⟩,
 ⟨(some 5), none, false, .ldv 5 (.t 4)⟩,
 ⟨(some 6), none, true, .call 18 [(.t 5)]⟩,
 ⟨(some 7), none, false, .fa 0 0 (.t 3)⟩,
 ⟨none, none, true, .st 5 (.t 7) (.t 6)⟩])
 (.seq
 (.reg false [2, 3] [⟨(some 8), none, false, .fa 1 5 (.t 1)⟩,
 ⟨(some 9), none, false, .ld (some 3) (.t 8)⟩,
 ⟨(some 10), none, true, .call 58 [(.t 9)]⟩,
 ⟨(some 11), none, false, .fa 1 5 (.t 3)⟩,
 ⟨none, none, true, .st 3 (.t 11) (.t 10)⟩])
 (.seq
 (.reg false [2] [⟨(some 12), none, false, .ldv 8 (.t 3)⟩,
 ⟨none, none, true, .st 8 (.t 2) (.t 12)⟩])
 .ret)))))
theorem c11 : (Go.Proofs.Tryz.f11).body.bind (comp prog.P (1, (Go.Proofs.Tryz.f11).ntmps) lv11) = some m11 := by kernel_rfl
theorem r11 : resOK prog.P (Go.Proofs.Tryz.f11).results.toList = true := by kernel_rfl

/-- impl.IsValidConsole -/
def lv12 : List (Nat × List Nat) := [(0, [1]), (1, [2])]
def m12 : MC :=
  (.seq
 (.reg false [1] [⟨(some 1), none, true, .box (.t 0)⟩,
 ⟨(some 2), none, false, .mov (.k (.d (.bool false)))⟩])
 (.seq
 (.reg false [2] [⟨(some 3), none, false, .fa 0 0 (.t 1)⟩,
 ⟨(some 4), none, false, .ldv 5 (.t 3)⟩,
 ⟨(some 5), none, true, .call 33 [(.t 4)]⟩,
 ⟨(some 6), none, false, .mov (.t 5)⟩,
 ⟨(some 7), (some (6, true)), false, .fa 1 5 (.t 1)⟩,
 ⟨(some 8), (some (6, true)), false, .ld (some 3) (.t 7)⟩,
 ⟨(some 9), (some (6, true)), true, .call 59 [(.t 8)]⟩,
 ⟨(some 10), none, false, .pick (.t 6) (.t 9) (.k (.d (.bool false)))⟩,
 ⟨(some 2), none, false, .mov (.t 10)⟩])
 .ret))
theorem c12 : (Go.Proofs.Tryz.f12).body.bind (comp prog.P (1, (Go.Proofs.Tryz.f12).ntmps) lv12) = some m12 := by kernel_rfl
theorem r12 : resOK prog.P (Go.Proofs.Tryz.f12).results.toList = true := by kernel_rfl

/-- laws.eqConsole -/
def lv13 : List (Nat × List Nat) := [(0, [2, 3]), (1, [2, 3, 10]), (2, [4]), (3, [16]), (4, [4]), (5, [4])]
def m13 : MC :=
  (.seq
 (.reg false [2, 3] [⟨(some 2), none, true, .box (.t 0)⟩,
 ⟨(some 3), none, true, .box (.t 1)⟩,
 ⟨(some 4), none, false, .mov (.k (.d (.bool false)))⟩])
 (.seq
 (.seq
 (.reg false [2, 3, 10] [⟨(some 5), none, false, .fa 0 0 (.t 2)⟩,
 ⟨(some 6), none, false, .ldv 5 (.t 5)⟩,
 ⟨(some 7), none, false, .fa 0 0 (.t 3)⟩,
 ⟨(some 8), none, false, .ldv 5 (.t 7)⟩,
 ⟨(some 9), none, true, .call 21 [(.t 6), (.t 8)]⟩,
 ⟨(some 10), none, false, .un .not (.t 9)⟩])
 (.cond (.t 10)
 (.seq
 (.reg false [4] [⟨(some 4), none, false, .mov (.k (.d (.bool false)))⟩])
 .ret)
 .skip))
 (.seq
 (.seq
 (.reg false [16] [⟨(some 11), none, false, .fa 1 5 (.t 2)⟩,
 ⟨(some 12), none, false, .ld (some 3) (.t 11)⟩,
 ⟨(some 13), none, false, .fa 1 5 (.t 3)⟩,
 ⟨(some 14), none, false, .ld (some 3) (.t 13)⟩,
 ⟨(some 15), none, true, .call 60 [(.t 12), (.t 14)]⟩,
 ⟨(some 16), none, false, .un .not (.t 15)⟩])
 (.cond (.t 16)
 (.seq
 (.reg false [4] [⟨(some 4), none, false, .mov (.k (.d (.bool false)))⟩])
 .ret)
 .skip))
 (.seq
 (.reg false [4] [⟨(some 4), none, false, .mov (.k (.d (.bool true)))⟩])
 .ret))))
theorem c13 : (Go.Proofs.Tryz.f13).body.bind (comp prog.P (2, (Go.Proofs.Tryz.f13).ntmps) lv13) = some m13 := by kernel_rfl
theorem r13 : resOK prog.P (Go.Proofs.Tryz.f13).results.toList = true := by kernel_rfl

/-- spec.FormatConsole -/
def lv14 : List (Nat × List Nat) := [(0, [1]), (1, [1, 10]), (2, [2, 3]), (3, [1, 4, 5]), (4, [1, 4, 5, 6]), (5, [1, 4, 5, 6, 17]), (6, [1, 4, 5, 6]), (7, [1, 4, 5, 6]), (8, [1, 4, 5, 7]), (9, [1, 4, 5, 7, 42]), (10, [1, 4, 5, 7]), (11, [1, 4, 5, 7]), (12, [2, 3]), (1000003, [1, 4, 1, 0, 3, 2, 1, 2, 2, 1, 3, 2, 4, 0, 2, 2, 1, 3, 2, 1, 2, 4, 0])]
def m14 : MC :=
  (.seq
 (.reg false [1] [⟨(some 1), none, true, .box (.t 0)⟩,
 ⟨(some 2), none, false, .mov (.k (.d (.str [])))⟩,
 ⟨(some 3), none, false, .mov (.k (.d (.bool false)))⟩])
 (.seq
 (.seq
 (.reg false [1, 10] [⟨(some 8), none, false, .ldv 8 (.t 1)⟩,
 ⟨(some 9), none, true, .call 57 [(.t 8)]⟩,
 ⟨(some 10), none, false, .un .not (.t 9)⟩])
 (.cond (.t 10)
 (.seq
 (.reg false [2, 3] [⟨(some 2), none, false, .mov (.k (.d (.str [])))⟩,
 ⟨(some 3), none, false, .mov (.k (.d (.bool false)))⟩])
 .ret)
 .skip))
 (.seq
 (.any [4] [1, 4, 5] (.q 0 ⟨(some 11), none, false, .fa 0 0 (.t 1)⟩ (.br (.e 1 ⟨(some 12), none, false, .ldv 5 (.t 11)⟩ (.e 2 ⟨(some 5), none, true, .alloc (.st (.cons (.int .i64 0) (.cons (.sl true 4 .nil) (.cons (.int .i64 0) (.cons (.int .i64 0) (.cons (.sl true 1 .nil) .nil))))))⟩ (.q 3 ⟨(some 4), none, false, .mov (.k (.d (.str [])))⟩ (.e 4 ⟨none, none, true, .st 5 (.t 5) (.t 12)⟩ .done))))
 (.e 2 ⟨(some 5), none, true, .alloc (.st (.cons (.int .i64 0) (.cons (.sl true 4 .nil) (.cons (.int .i64 0) (.cons (.int .i64 0) (.cons (.sl true 1 .nil) .nil))))))⟩ (.q 3 ⟨(some 4), none, false, .mov (.k (.d (.str [])))⟩ (.e 1 ⟨(some 12), none, false, .ldv 5 (.t 11)⟩ (.e 4 ⟨none, none, true, .st 5 (.t 5) (.t 12)⟩ .done)))))))
 (.seq
 (.seq
 (.reg false [1, 4, 5, 6] [⟨(some 6), none, false, .mov (.k (.d (.int .i64 0)))⟩])
 (.block 0
 (.loop
 (.seq
 (.seq
 (.reg false [1, 4, 5, 6, 17] [⟨(some 13), none, false, .mov (.t 6)⟩,
 ⟨(some 14), none, false, .fa 1 1 (.t 5)⟩,
 ⟨(some 15), none, false, .ld none (.t 14)⟩,
 ⟨(some 16), none, false, .len false (.t 15)⟩,
 ⟨(some 17), none, false, .bin .lss (.t 13) (.t 16)⟩])
 (.cond (.t 17)
 .skip
 (.exit 0)))
 (.seq
 (.block 1
 (.reg true [1, 4, 5, 6] [⟨(some 20), none, false, .mov (.t 4)⟩,
 ⟨(some 21), none, false, .fa 1 1 (.t 5)⟩,
 ⟨(some 22), none, false, .ld none (.t 21)⟩,
 ⟨(some 23), none, false, .mov (.t 6)⟩,
 ⟨(some 24), none, false, .ia 4 (.t 22) (.t 23)⟩,
 ⟨(some 25), none, false, .fa 0 0 (.t 24)⟩,
 ⟨(some 26), none, false, .ld none (.t 25)⟩,
 ⟨(some 27), none, false, .callP 61 [(.t 26)]⟩,
 ⟨(some 28), none, false, .bin .add (.t 20) (.t 27)⟩,
 ⟨(some 29), none, false, .bin .add (.t 28) (.k (.d (.str [58, 32])))⟩,
 ⟨(some 30), none, false, .fa 1 1 (.t 5)⟩,
 ⟨(some 31), none, false, .ld none (.t 30)⟩,
 ⟨(some 32), none, false, .mov (.t 6)⟩,
 ⟨(some 33), none, false, .ia 4 (.t 31) (.t 32)⟩,
 ⟨(some 34), none, false, .ld (some 4) (.t 33)⟩,
 ⟨(some 35), none, false, .callP 62 [(.t 34)]⟩,
 ⟨(some 36), none, false, .bin .add (.t 29) (.t 35)⟩,
 ⟨(some 37), none, false, .bin .add (.t 36) (.k (.d (.str [10])))⟩,
 ⟨(some 4), none, false, .mov (.t 37)⟩]))
 (.reg false [1, 4, 5, 6] [⟨(some 18), none, false, .mov (.t 6)⟩,
 ⟨(some 19), none, false, .bin .add (.t 18) (.k (.d (.int .i64 1)))⟩,
 ⟨(some 6), none, false, .mov (.t 19)⟩]))))))
 (.seq
 (.seq
 (.reg false [1, 4, 5, 7] [⟨(some 7), none, false, .mov (.k (.d (.int .i64 0)))⟩])
 (.block 2
 (.loop
 (.seq
 (.seq
 (.reg false [1, 4, 5, 7, 42] [⟨(some 38), none, false, .mov (.t 7)⟩,
 ⟨(some 39), none, false, .fa 4 4 (.t 5)⟩,
 ⟨(some 40), none, false, .ld none (.t 39)⟩,
 ⟨(some 41), none, false, .len false (.t 40)⟩,
 ⟨(some 42), none, false, .bin .lss (.t 38) (.t 41)⟩])
 (.cond (.t 42)
 .skip
 (.exit 2)))
 (.seq
 (.block 3
 (.reg false [1, 4, 5, 7] [⟨(some 45), none, false, .mov (.t 4)⟩,
 ⟨(some 46), none, false, .bin .add (.t 45) (.k (.d (.str [45, 32])))⟩,
 ⟨(some 47), none, false, .fa 4 4 (.t 5)⟩,
 ⟨(some 48), none, false, .ld none (.t 47)⟩,
 ⟨(some 49), none, false, .mov (.t 7)⟩,
 ⟨(some 50), none, false, .ia 1 (.t 48) (.t 49)⟩,
 ⟨(some 51), none, false, .ld none (.t 50)⟩,
 ⟨(some 52), none, false, .bin .add (.t 46) (.t 51)⟩,
 ⟨(some 53), none, false, .bin .add (.t 52) (.k (.d (.str [10])))⟩,
 ⟨(some 4), none, false, .mov (.t 53)⟩]))
 (.reg false [1, 4, 5, 7] [⟨(some 43), none, false, .mov (.t 7)⟩,
 ⟨(some 44), none, false, .bin .add (.t 43) (.k (.d (.int .i64 1)))⟩,
 ⟨(some 7), none, false, .mov (.t 44)⟩]))))))
 (.seq
 (.reg true [2, 3] [⟨(some 54), none, false, .mov (.t 4)⟩,
 ⟨(some 55), none, false, .bin .add (.t 54) (.k (.d (.str [100, 97, 121, 32])))⟩,
 ⟨(some 56), none, false, .fa 0 0 (.t 5)⟩,
 ⟨(some 57), none, false, .ld none (.t 56)⟩,
 ⟨(some 58), none, false, .callP 61 [(.t 57)]⟩,
 ⟨(some 59), none, false, .bin .add (.t 55) (.t 58)⟩,
 ⟨(some 60), none, false, .bin .add (.t 59) (.k (.d (.str [59, 32, 107, 101, 112, 116, 32])))⟩,
 ⟨(some 61), none, false, .fa 2 2 (.t 5)⟩,
 ⟨(some 62), none, false, .ld none (.t 61)⟩,
 ⟨(some 63), none, false, .callP 61 [(.t 62)]⟩,
 ⟨(some 64), none, false, .bin .add (.t 60) (.t 63)⟩,
 ⟨(some 65), none, false, .bin .add (.t 64) (.k (.d (.str [59, 32, 109, 111, 118, 101, 100, 32])))⟩,
 ⟨(some 66), none, false, .fa 3 3 (.t 5)⟩,
 ⟨(some 67), none, false, .ld none (.t 66)⟩,
 ⟨(some 68), none, false, .callP 61 [(.t 67)]⟩,
 ⟨(some 69), none, false, .bin .add (.t 65) (.t 68)⟩,
 ⟨(some 70), none, false, .bin .add (.t 69) (.k (.d (.str [59, 32, 114, 101, 99, 111, 114, 100, 115, 32])))⟩,
 ⟨(some 71), none, false, .fa 1 5 (.t 1)⟩,
 ⟨(some 72), none, false, .fa 2 2 (.t 71)⟩,
 ⟨(some 73), none, false, .ld none (.t 72)⟩,
 ⟨(some 74), none, false, .callP 61 [(.t 73)]⟩,
 ⟨(some 75), none, false, .bin .add (.t 70) (.t 74)⟩,
 ⟨(some 76), none, false, .bin .add (.t 75) (.k (.d (.str [10])))⟩,
 ⟨(some 2), none, false, .mov (.t 76)⟩,
 ⟨(some 3), none, false, .mov (.k (.d (.bool true)))⟩])
 .ret))))))
theorem c14 : (Go.Proofs.Tryz.f14).body.bind (comp prog.P (1, (Go.Proofs.Tryz.f14).ntmps) lv14) = some m14 := by kernel_rfl
theorem r14 : resOK prog.P (Go.Proofs.Tryz.f14).results.toList = true := by kernel_rfl

/-- impl.FormatConsole -/
def lv15 : List (Nat × List Nat) := [(0, [1]), (1, [1, 11]), (2, [2, 3]), (3, [1, 4]), (4, [1, 4, 14, 15, 16]), (5, [1, 4, 14, 15, 16, 17]), (6, [1, 4, 6, 14, 15, 16]), (7, [1, 4, 14, 15, 16]), (8, [1, 4, 14, 15, 16]), (9, [1, 4, 33, 34, 35]), (10, [1, 4, 33, 34, 35, 36]), (11, [1, 4, 8, 33, 34, 35]), (12, [1, 4, 33, 34, 35]), (13, [1, 4, 33, 34, 35]), (14, [2, 3])]
def m15 : MC :=
  (.seq
 (.reg false [1] [⟨(some 1), none, true, .box (.t 0)⟩,
 ⟨(some 2), none, false, .mov (.k (.d (.str [])))⟩,
 ⟨(some 3), none, false, .mov (.k (.d (.bool false)))⟩])
 (.seq
 (.seq
 (.reg false [1, 11] [⟨(some 9), none, false, .ldv 8 (.t 1)⟩,
 ⟨(some 10), none, true, .call 12 [(.t 9)]⟩,
 ⟨(some 11), none, false, .un .not (.t 10)⟩])
 (.cond (.t 11)
 (.seq
 (.reg false [2, 3] [⟨(some 2), none, false, .mov (.k (.d (.str [])))⟩,
 ⟨(some 3), none, false, .mov (.k (.d (.bool false)))⟩])
 .ret)
 .skip))
 (.seq
 (.reg false [1, 4] [⟨(some 4), none, false, .mov (.k (.d (.str [])))⟩])
 (.seq
 (.seq
 (.reg false [1, 4, 14, 15, 16] [⟨(some 12), none, false, .fa 0 0 (.t 1)⟩,
 ⟨(some 13), none, false, .fa 1 1 (.t 12)⟩,
 ⟨(some 14), none, false, .ld none (.t 13)⟩,
 ⟨(some 15), none, false, .len false (.t 14)⟩,
 ⟨(some 16), none, false, .mov (.k (.d (.int .i64 0)))⟩])
 (.block 0
 (.loop
 (.seq
 (.reg false [1, 4, 14, 15, 16, 17] [⟨(some 17), none, false, .bin .lss (.t 16) (.t 15)⟩])
 (.seq
 (.cond (.t 17)
 .skip
 (.exit 0))
 (.seq
 (.block 1
 (.seq
 (.reg false [1, 4, 6, 14, 15, 16] [⟨(some 18), none, false, .ia 4 (.t 14) (.t 16)⟩,
 ⟨(some 19), none, false, .ld (some 4) (.t 18)⟩,
 ⟨(some 6), none, true, .alloc (.st (.cons (.int .i64 0) (.cons (.int .i64 0) (.cons (.int .i64 0) (.cons (.sl true 1 .nil) .nil)))))⟩,
 ⟨none, none, true, .st 4 (.t 6) (.t 19)⟩])
 (.reg true [1, 4, 14, 15, 16] [⟨(some 20), none, false, .mov (.t 4)⟩,
 ⟨(some 21), none, false, .fa 0 0 (.t 6)⟩,
 ⟨(some 22), none, false, .ld none (.t 21)⟩,
 ⟨(some 23), none, false, .callP 63 [(.t 22)]⟩,
 ⟨(some 24), none, false, .bin .add (.t 23) (.k (.d (.str [58, 32])))⟩,
 ⟨(some 25), none, false, .ld (some 4) (.t 6)⟩,
 ⟨(some 26), none, false, .callP 64 [(.t 25)]⟩,
 ⟨(some 27), none, false, .bin .add (.t 24) (.t 26)⟩,
 ⟨(some 28), none, false, .bin .add (.t 27) (.k (.d (.str [10])))⟩,
 ⟨(some 29), none, false, .bin .add (.t 20) (.t 28)⟩,
 ⟨(some 4), none, false, .mov (.t 29)⟩])))
 (.reg false [1, 4, 14, 15, 16] [⟨(some 30), none, false, .bin .add (.t 16) (.k (.d (.int .i64 1)))⟩,
 ⟨(some 16), none, false, .mov (.t 30)⟩])))))))
 (.seq
 (.seq
 (.reg false [1, 4, 33, 34, 35] [⟨(some 31), none, false, .fa 0 0 (.t 1)⟩,
 ⟨(some 32), none, false, .fa 4 4 (.t 31)⟩,
 ⟨(some 33), none, false, .ld none (.t 32)⟩,
 ⟨(some 34), none, false, .len false (.t 33)⟩,
 ⟨(some 35), none, false, .mov (.k (.d (.int .i64 0)))⟩])
 (.block 2
 (.loop
 (.seq
 (.reg false [1, 4, 33, 34, 35, 36] [⟨(some 36), none, false, .bin .lss (.t 35) (.t 34)⟩])
 (.seq
 (.cond (.t 36)
 .skip
 (.exit 2))
 (.seq
 (.block 3
 (.seq
 (.reg false [1, 4, 8, 33, 34, 35] [⟨(some 37), none, false, .ia 1 (.t 33) (.t 35)⟩,
 ⟨(some 38), none, false, .ld none (.t 37)⟩,
 ⟨(some 8), none, false, .mov (.t 38)⟩])
 (.reg false [1, 4, 33, 34, 35] [⟨(some 39), none, false, .mov (.t 4)⟩,
 ⟨(some 40), none, false, .mov (.t 8)⟩,
 ⟨(some 41), none, false, .bin .add (.k (.d (.str [45, 32]))) (.t 40)⟩,
 ⟨(some 42), none, false, .bin .add (.t 41) (.k (.d (.str [10])))⟩,
 ⟨(some 43), none, false, .bin .add (.t 39) (.t 42)⟩,
 ⟨(some 4), none, false, .mov (.t 43)⟩])))
 (.reg false [1, 4, 33, 34, 35] [⟨(some 44), none, false, .bin .add (.t 35) (.k (.d (.int .i64 1)))⟩,
 ⟨(some 35), none, false, .mov (.t 44)⟩])))))))
 (.seq
 (.reg true [2, 3] [⟨(some 45), none, false, .mov (.t 4)⟩,
 ⟨(some 46), none, false, .bin .add (.t 45) (.k (.d (.str [100, 97, 121, 32])))⟩,
 ⟨(some 47), none, false, .fa 0 0 (.t 1)⟩,
 ⟨(some 48), none, false, .fa 0 0 (.t 47)⟩,
 ⟨(some 49), none, false, .ld none (.t 48)⟩,
 ⟨(some 50), none, false, .callP 63 [(.t 49)]⟩,
 ⟨(some 51), none, false, .bin .add (.t 46) (.t 50)⟩,
 ⟨(some 52), none, false, .bin .add (.t 51) (.k (.d (.str [59, 32, 107, 101, 112, 116, 32])))⟩,
 ⟨(some 53), none, false, .fa 0 0 (.t 1)⟩,
 ⟨(some 54), none, false, .fa 2 2 (.t 53)⟩,
 ⟨(some 55), none, false, .ld none (.t 54)⟩,
 ⟨(some 56), none, false, .callP 63 [(.t 55)]⟩,
 ⟨(some 57), none, false, .bin .add (.t 52) (.t 56)⟩,
 ⟨(some 58), none, false, .bin .add (.t 57) (.k (.d (.str [59, 32, 109, 111, 118, 101, 100, 32])))⟩,
 ⟨(some 59), none, false, .fa 0 0 (.t 1)⟩,
 ⟨(some 60), none, false, .fa 3 3 (.t 59)⟩,
 ⟨(some 61), none, false, .ld none (.t 60)⟩,
 ⟨(some 62), none, false, .callP 63 [(.t 61)]⟩,
 ⟨(some 63), none, false, .bin .add (.t 58) (.t 62)⟩,
 ⟨(some 64), none, false, .bin .add (.t 63) (.k (.d (.str [59, 32, 114, 101, 99, 111, 114, 100, 115, 32])))⟩,
 ⟨(some 65), none, false, .fa 1 5 (.t 1)⟩,
 ⟨(some 66), none, false, .fa 2 2 (.t 65)⟩,
 ⟨(some 67), none, false, .ld none (.t 66)⟩,
 ⟨(some 68), none, false, .callP 63 [(.t 67)]⟩,
 ⟨(some 69), none, false, .bin .add (.t 64) (.t 68)⟩,
 ⟨(some 70), none, false, .bin .add (.t 69) (.k (.d (.str [10])))⟩,
 ⟨(some 2), none, false, .mov (.t 70)⟩,
 ⟨(some 3), none, false, .mov (.k (.d (.bool true)))⟩])
 .ret))))))
theorem c15 : (Go.Proofs.Tryz.f15).body.bind (comp prog.P (1, (Go.Proofs.Tryz.f15).ntmps) lv15) = some m15 := by kernel_rfl
theorem r15 : resOK prog.P (Go.Proofs.Tryz.f15).results.toList = true := by kernel_rfl

/-- laws.szOffice -/
def lv16 : List (Nat × List Nat) := [(0, [1, 2]), (1, [1, 2]), (2, [1, 2, 10]), (3, [4]), (4, [1]), (5, [1, 16]), (6, [4]), (7, [4])]
def m16 : MC :=
  (.seq
 (.reg false [1, 2] [⟨(some 2), none, true, .box (.t 0)⟩,
 ⟨(some 4), none, false, .mov (.k (.d (.int .i64 0)))⟩])
 (.seq
 (.reg false [1, 2] [⟨(some 5), none, false, .fa 1 1 (.t 2)⟩,
 ⟨(some 6), none, false, .ld none (.t 5)⟩,
 ⟨(some 7), none, false, .mov (.t 1)⟩,
 ⟨(some 8), none, true, .call 65 [(.t 6), (.t 7)]⟩,
 ⟨(some 1), none, false, .mov (.t 8)⟩])
 (.seq
 (.seq
 (.reg false [1, 2, 10] [⟨(some 9), none, false, .mov (.t 1)⟩,
 ⟨(some 10), none, false, .bin .lss (.t 9) (.k (.d (.int .i64 0)))⟩])
 (.cond (.t 10)
 (.seq
 (.reg false [4] [⟨(some 4), none, false, .mov (.k (.d (.int .i64 (-1))))⟩])
 .ret)
 .skip))
 (.seq
 (.reg false [1] [⟨(some 11), none, false, .fa 4 4 (.t 2)⟩,
 ⟨(some 12), none, false, .ld none (.t 11)⟩,
 ⟨(some 13), none, false, .mov (.t 1)⟩,
 ⟨(some 14), none, true, .call 66 [(.t 12), (.t 13)]⟩,
 ⟨(some 1), none, false, .mov (.t 14)⟩])
 (.seq
 (.seq
 (.reg false [1, 16] [⟨(some 15), none, false, .mov (.t 1)⟩,
 ⟨(some 16), none, false, .bin .lss (.t 15) (.k (.d (.int .i64 0)))⟩])
 (.cond (.t 16)
 (.seq
 (.reg false [4] [⟨(some 4), none, false, .mov (.k (.d (.int .i64 (-1))))⟩])
 .ret)
 .skip))
 (.seq
 (.reg false [4] [⟨(some 17), none, false, .mov (.t 1)⟩,
 ⟨(some 4), none, false, .mov (.t 17)⟩])
 .ret))))))
theorem c16 : (Go.Proofs.Tryz.f16).body.bind (comp prog.P (1, (Go.Proofs.Tryz.f16).ntmps) lv16) = some m16 := by kernel_rfl
theorem r16 : resOK prog.P (Go.Proofs.Tryz.f16).results.toList = true := by kernel_rfl

/-- laws.toOffice -/
def lv18 : List (Nat × List Nat) := [(0, [1, 2]), (1, [1, 2, 3]), (2, [1, 2, 3]), (3, [1, 2, 3]), (4, [1, 2, 3]), (5, [1, 2, 3]), (6, [2, 3]), (7, [2])]
def m18 : MC :=
  (.seq
 (.reg false [1, 2] [⟨(some 1), none, true, .box (.t 0)⟩,
 ⟨(some 2), none, true, .alloc (.st (.cons (.int .i64 0) (.cons (.sl true 4 .nil) (.cons (.int .i64 0) (.cons (.int .i64 0) (.cons (.sl true 1 .nil) .nil))))))⟩])
 (.seq
 (.reg false [1, 2, 3] [⟨(some 3), none, true, .alloc (.st (.cons (.int .i64 0) (.cons (.sl true 4 .nil) (.cons (.int .i64 0) (.cons (.int .i64 0) (.cons (.sl true 1 .nil) .nil))))))⟩])
 (.seq
 (.reg false [1, 2, 3] [⟨(some 4), none, false, .fa 0 0 (.t 1)⟩,
 ⟨(some 5), none, false, .ld none (.t 4)⟩,
 ⟨(some 6), none, false, .fa 0 0 (.t 3)⟩,
 ⟨none, none, true, .st 1 (.t 6) (.t 5)⟩])
 (.seq
 (.reg false [1, 2, 3] [⟨(some 7), none, false, .fa 1 1 (.t 1)⟩,
 ⟨(some 8), none, false, .ld none (.t 7)⟩,
 ⟨(some 9), none, true, .call 70 [(.t 8)]⟩,
 ⟨(some 10), none, false, .fa 1 1 (.t 3)⟩,
 ⟨none, none, true, .st 1 (.t 10) (.t 9)⟩])
 (.seq
 (.reg false [1, 2, 3] [⟨(some 11), none, false, .fa 2 2 (.t 1)⟩,
 ⟨(some 12), none, false, .ld none (.t 11)⟩,
 ⟨(some 13), none, false, .fa 2 2 (.t 3)⟩,
 ⟨none, none, true, .st 1 (.t 13) (.t 12)⟩])
 (.seq
 (.reg false [1, 2, 3] [⟨(some 14), none, false, .fa 3 3 (.t 1)⟩,
 ⟨(some 15), none, false, .ld none (.t 14)⟩,
 ⟨(some 16), none, false, .fa 3 3 (.t 3)⟩,
 ⟨none, none, true, .st 1 (.t 16) (.t 15)⟩])
 (.seq
 (.reg false [2, 3] [⟨(some 17), none, false, .fa 4 4 (.t 1)⟩,
 ⟨(some 18), none, false, .ld none (.t 17)⟩,
 ⟨(some 19), none, true, .call 71 [(.t 18)]⟩,
 ⟨(some 20), none, false, .fa 4 4 (.t 3)⟩,
 ⟨none, none, true, .st 1 (.t 20) (.t 19)⟩])
 (.seq
 (.reg false [2] [⟨(some 21), none, false, .ldv 5 (.t 3)⟩,
 ⟨none, none, true, .st 5 (.t 2) (.t 21)⟩])
 .ret))))))))
theorem c18 : (Go.Proofs.Tryz.f18).body.bind (comp prog.P (1, (Go.Proofs.Tryz.f18).ntmps) lv18) = some m18 := by kernel_rfl
theorem r18 : resOK prog.P (Go.Proofs.Tryz.f18).results.toList = true := by kernel_rfl

/-- laws.eqOffice -/
def lv21 : List (Nat × List Nat) := [(0, [2, 3]), (1, [2, 3, 9]), (2, [4]), (3, [2, 3, 15]), (4, [4]), (5, [2, 3, 20]), (6, [4]), (7, [2, 3, 25]), (8, [4]), (9, [31]), (10, [4]), (11, [4])]
def m21 : MC :=
  (.seq
 (.reg false [2, 3] [⟨(some 2), none, true, .box (.t 0)⟩,
 ⟨(some 3), none, true, .box (.t 1)⟩,
 ⟨(some 4), none, false, .mov (.k (.d (.bool false)))⟩])
 (.seq
 (.seq
 (.reg false [2, 3, 9] [⟨(some 5), none, false, .fa 0 0 (.t 2)⟩,
 ⟨(some 6), none, false, .ld none (.t 5)⟩,
 ⟨(some 7), none, false, .fa 0 0 (.t 3)⟩,
 ⟨(some 8), none, false, .ld none (.t 7)⟩,
 ⟨(some 9), none, false, .bin .neq (.t 6) (.t 8)⟩])
 (.cond (.t 9)
 (.seq
 (.reg false [4] [⟨(some 4), none, false, .mov (.k (.d (.bool false)))⟩])
 .ret)
 .skip))
 (.seq
 (.seq
 (.reg false [2, 3, 15] [⟨(some 10), none, false, .fa 1 1 (.t 2)⟩,
 ⟨(some 11), none, false, .ld none (.t 10)⟩,
 ⟨(some 12), none, false, .fa 1 1 (.t 3)⟩,
 ⟨(some 13), none, false, .ld none (.t 12)⟩,
 ⟨(some 14), none, true, .call 75 [(.t 11), (.t 13)]⟩,
 ⟨(some 15), none, false, .un .not (.t 14)⟩])
 (.cond (.t 15)
 (.seq
 (.reg false [4] [⟨(some 4), none, false, .mov (.k (.d (.bool false)))⟩])
 .ret)
 .skip))
 (.seq
 (.seq
 (.reg false [2, 3, 20] [⟨(some 16), none, false, .fa 2 2 (.t 2)⟩,
 ⟨(some 17), none, false, .ld none (.t 16)⟩,
 ⟨(some 18), none, false, .fa 2 2 (.t 3)⟩,
 ⟨(some 19), none, false, .ld none (.t 18)⟩,
 ⟨(some 20), none, false, .bin .neq (.t 17) (.t 19)⟩])
 (.cond (.t 20)
 (.seq
 (.reg false [4] [⟨(some 4), none, false, .mov (.k (.d (.bool false)))⟩])
 .ret)
 .skip))
 (.seq
 (.seq
 (.reg false [2, 3, 25] [⟨(some 21), none, false, .fa 3 3 (.t 2)⟩,
 ⟨(some 22), none, false, .ld none (.t 21)⟩,
 ⟨(some 23), none, false, .fa 3 3 (.t 3)⟩,
 ⟨(some 24), none, false, .ld none (.t 23)⟩,
 ⟨(some 25), none, false, .bin .neq (.t 22) (.t 24)⟩])
 (.cond (.t 25)
 (.seq
 (.reg false [4] [⟨(some 4), none, false, .mov (.k (.d (.bool false)))⟩])
 .ret)
 .skip))
 (.seq
 (.seq
 (.reg false [31] [⟨(some 26), none, false, .fa 4 4 (.t 2)⟩,
 ⟨(some 27), none, false, .ld none (.t 26)⟩,
 ⟨(some 28), none, false, .fa 4 4 (.t 3)⟩,
 ⟨(some 29), none, false, .ld none (.t 28)⟩,
 ⟨(some 30), none, true, .call 76 [(.t 27), (.t 29)]⟩,
 ⟨(some 31), none, false, .un .not (.t 30)⟩])
 (.cond (.t 31)
 (.seq
 (.reg false [4] [⟨(some 4), none, false, .mov (.k (.d (.bool false)))⟩])
 .ret)
 .skip))
 (.seq
 (.reg false [4] [⟨(some 4), none, false, .mov (.k (.d (.bool true)))⟩])
 .ret)))))))
theorem c21 : (Go.Proofs.Tryz.f21).body.bind (comp prog.P (2, (Go.Proofs.Tryz.f21).ntmps) lv21) = some m21 := by kernel_rfl
theorem r21 : resOK prog.P (Go.Proofs.Tryz.f21).results.toList = true := by kernel_rfl

/-- impl.IsOffice -/
def lv33 : List (Nat × List Nat) := [(0, [1]), (1, [1, 38]), (2, [2]), (3, [1, 40, 41, 42]), (4, [1, 40, 41, 42, 43]), (5, [1, 3, 4, 40, 41, 42]), (6, [1, 40, 41, 42, 65]), (7, [2]), (8, [1, 40, 41, 42]), (9, [2])]
def m33 : MC :=
  (.seq
 (.reg false [1] [⟨(some 1), none, true, .box (.t 0)⟩,
 ⟨(some 2), none, false, .mov (.k (.d (.bool false)))⟩])
 (.seq
 (.seq
 (.reg false [1, 38] [⟨(some 5), none, false, .fa 0 0 (.t 1)⟩,
 ⟨(some 6), none, false, .ld none (.t 5)⟩,
 ⟨(some 7), none, true, .call 86 [(.t 6)]⟩,
 ⟨(some 8), none, false, .un .not (.t 7)⟩,
 ⟨(some 9), none, false, .mov (.t 8)⟩,
 ⟨(some 10), (some (9, false)), false, .fa 1 1 (.t 1)⟩,
 ⟨(some 11), (some (9, false)), false, .ld none (.t 10)⟩,
 ⟨(some 12), (some (9, false)), false, .len false (.t 11)⟩,
 ⟨(some 13), (some (9, false)), false, .bin .gtr (.t 12) (.k (.d (.int .i64 6)))⟩,
 ⟨(some 14), none, false, .pick (.t 9) (.k (.d (.bool true))) (.t 13)⟩,
 ⟨(some 15), none, false, .mov (.t 14)⟩,
 ⟨(some 16), (some (15, false)), false, .fa 2 2 (.t 1)⟩,
 ⟨(some 17), (some (15, false)), false, .ld none (.t 16)⟩,
 ⟨(some 18), (some (15, false)), true, .call 72 [(.t 17), (.k (.d (.int .i64 0))), (.k (.d (.int .i64 999)))]⟩,
 ⟨(some 19), (some (15, false)), false, .un .not (.t 18)⟩,
 ⟨(some 20), none, false, .pick (.t 15) (.k (.d (.bool true))) (.t 19)⟩,
 ⟨(some 21), none, false, .mov (.t 20)⟩,
 ⟨(some 22), (some (21, false)), false, .fa 3 3 (.t 1)⟩,
 ⟨(some 23), (some (21, false)), false, .ld none (.t 22)⟩,
 ⟨(some 24), (some (21, false)), true, .call 72 [(.t 23), (.k (.d (.int .i64 0))), (.k (.d (.int .i64 999)))]⟩,
 ⟨(some 25), (some (21, false)), false, .un .not (.t 24)⟩,
 ⟨(some 26), none, false, .pick (.t 21) (.k (.d (.bool true))) (.t 25)⟩,
 ⟨(some 27), none, false, .mov (.t 26)⟩,
 ⟨(some 28), (some (27, false)), false, .fa 4 4 (.t 1)⟩,
 ⟨(some 29), (some (27, false)), false, .ld none (.t 28)⟩,
 ⟨(some 30), (some (27, false)), false, .len false (.t 29)⟩,
 ⟨(some 31), (some (27, false)), false, .bin .gtr (.t 30) (.k (.d (.int .i64 0)))⟩,
 ⟨(some 32), (some (27, false)), false, .mov (.t 31)⟩,
 ⟨(some 33), (some (32, true)), false, .fa 4 4 (.t 1)⟩,
 ⟨(some 34), (some (32, true)), false, .ld none (.t 33)⟩,
 ⟨(some 35), (some (32, true)), true, .call 87 [(.t 34)]⟩,
 ⟨(some 36), (some (32, true)), false, .un .not (.t 35)⟩,
 ⟨(some 37), (some (27, false)), false, .pick (.t 32) (.t 36) (.k (.d (.bool false)))⟩,
 ⟨(some 38), none, false, .pick (.t 27) (.k (.d (.bool true))) (.t 37)⟩])
 (.cond (.t 38)
 (.seq
 (.reg false [2] [⟨(some 2), none, false, .mov (.k (.d (.bool false)))⟩])
 .ret)
 .skip))
 (.seq
 (.seq
 (.reg false [1, 40, 41, 42] [⟨(some 39), none, false, .fa 1 1 (.t 1)⟩,
 ⟨(some 40), none, false, .ld none (.t 39)⟩,
 ⟨(some 41), none, false, .len false (.t 40)⟩,
 ⟨(some 42), none, false, .mov (.k (.d (.int .i64 0)))⟩])
 (.block 0
 (.loop
 (.seq
 (.reg false [1, 40, 41, 42, 43] [⟨(some 43), none, false, .bin .lss (.t 42) (.t 41)⟩])
 (.seq
 (.cond (.t 43)
 .skip
 (.exit 0))
 (.seq
 (.block 1
 (.seq
 (.reg false [1, 3, 4, 40, 41, 42] [⟨(some 44), none, false, .mov (.t 42)⟩,
 ⟨(some 45), none, false, .ia 4 (.t 40) (.t 42)⟩,
 ⟨(some 46), none, false, .ld (some 4) (.t 45)⟩,
 ⟨(some 4), none, true, .alloc (.st (.cons (.int .i64 0) (.cons (.int .i64 0) (.cons (.int .i64 0) (.cons (.sl true 1 .nil) .nil)))))⟩,
 ⟨(some 3), none, false, .mov (.t 44)⟩,
 ⟨none, none, true, .st 4 (.t 4) (.t 46)⟩])
 (.seq
 (.reg true [1, 40, 41, 42, 65] [⟨(some 47), none, false, .ld (some 4) (.t 4)⟩,
 ⟨(some 48), none, false, .callP 88 [(.t 47)]⟩,
 ⟨(some 49), none, false, .un .not (.t 48)⟩,
 ⟨(some 50), none, false, .mov (.t 49)⟩,
 ⟨(some 51), (some (50, false)), false, .mov (.t 3)⟩,
 ⟨(some 52), (some (50, false)), false, .bin .gtr (.t 51) (.k (.d (.int .i64 0)))⟩,
 ⟨(some 53), (some (50, false)), false, .mov (.t 52)⟩,
 ⟨(some 54), (some (53, true)), false, .fa 1 1 (.t 1)⟩,
 ⟨(some 55), (some (53, true)), false, .ld none (.t 54)⟩,
 ⟨(some 56), (some (53, true)), false, .mov (.t 3)⟩,
 ⟨(some 57), (some (53, true)), false, .bin .sub (.t 56) (.k (.d (.int .i64 1)))⟩,
 ⟨(some 58), (some (53, true)), false, .ia 4 (.t 55) (.t 57)⟩,
 ⟨(some 59), (some (53, true)), false, .fa 0 0 (.t 58)⟩,
 ⟨(some 60), (some (53, true)), false, .ld none (.t 59)⟩,
 ⟨(some 61), (some (53, true)), false, .fa 0 0 (.t 4)⟩,
 ⟨(some 62), (some (53, true)), false, .ld none (.t 61)⟩,
 ⟨(some 63), (some (53, true)), false, .bin .geq (.t 60) (.t 62)⟩,
 ⟨(some 64), (some (50, false)), false, .pick (.t 53) (.t 63) (.k (.d (.bool false)))⟩,
 ⟨(some 65), none, false, .pick (.t 50) (.k (.d (.bool true))) (.t 64)⟩])
 (.cond (.t 65)
 (.seq
 (.reg false [2] [⟨(some 2), none, false, .mov (.k (.d (.bool false)))⟩])
 .ret)
 .skip))))
 (.reg false [1, 40, 41, 42] [⟨(some 66), none, false, .bin .add (.t 42) (.k (.d (.int .i64 1)))⟩,
 ⟨(some 42), none, false, .mov (.t 66)⟩])))))))
 (.seq
 (.reg false [2] [⟨(some 2), none, false, .mov (.k (.d (.bool true)))⟩])
 .ret))))
theorem c33 : (Go.Proofs.Tryz.f33).body.bind (comp prog.P (1, (Go.Proofs.Tryz.f33).ntmps) lv33) = some m33 := by kernel_rfl
theorem r33 : resOK prog.P (Go.Proofs.Tryz.f33).results.toList = true := by kernel_rfl

/-- laws.szLog -/
def lv56 : List (Nat × List Nat) := [(0, [1, 2]), (1, [1, 2]), (2, [1, 2, 11]), (3, [4]), (4, [1]), (5, [1, 18]), (6, [4]), (7, [4])]
def m56 : MC :=
  (.seq
 (.reg false [1, 2] [⟨(some 2), none, true, .box (.t 0)⟩,
 ⟨(some 4), none, false, .mov (.k (.d (.int .i64 0)))⟩])
 (.seq
 (.reg false [1, 2] [⟨(some 5), none, false, .mov (.t 1)⟩,
 ⟨(some 6), none, false, .fa 0 0 (.t 2)⟩,
 ⟨(some 7), none, false, .ld none (.t 6)⟩,
 ⟨(some 8), none, false, .len true (.t 7)⟩,
 ⟨(some 9), none, false, .bin .sub (.t 5) (.t 8)⟩,
 ⟨(some 1), none, false, .mov (.t 9)⟩])
 (.seq
 (.seq
 (.reg false [1, 2, 11] [⟨(some 10), none, false, .mov (.t 1)⟩,
 ⟨(some 11), none, false, .bin .lss (.t 10) (.k (.d (.int .i64 0)))⟩])
 (.cond (.t 11)
 (.seq
 (.reg false [4] [⟨(some 4), none, false, .mov (.k (.d (.int .i64 (-1))))⟩])
 .ret)
 .skip))
 (.seq
 (.reg false [1] [⟨(some 12), none, false, .mov (.t 1)⟩,
 ⟨(some 13), none, false, .fa 1 1 (.t 2)⟩,
 ⟨(some 14), none, false, .ld none (.t 13)⟩,
 ⟨(some 15), none, false, .len true (.t 14)⟩,
 ⟨(some 16), none, false, .bin .sub (.t 12) (.t 15)⟩,
 ⟨(some 1), none, false, .mov (.t 16)⟩])
 (.seq
 (.seq
 (.reg false [1, 18] [⟨(some 17), none, false, .mov (.t 1)⟩,
 ⟨(some 18), none, false, .bin .lss (.t 17) (.k (.d (.int .i64 0)))⟩])
 (.cond (.t 18)
 (.seq
 (.reg false [4] [⟨(some 4), none, false, .mov (.k (.d (.int .i64 (-1))))⟩])
 .ret)
 .skip))
 (.seq
 (.reg false [4] [⟨(some 19), none, false, .mov (.t 1)⟩,
 ⟨(some 4), none, false, .mov (.t 19)⟩])
 .ret))))))
theorem c56 : (Go.Proofs.Tryz.f56).body.bind (comp prog.P (1, (Go.Proofs.Tryz.f56).ntmps) lv56) = some m56 := by kernel_rfl
theorem r56 : resOK prog.P (Go.Proofs.Tryz.f56).results.toList = true := by kernel_rfl

/-- spec.l28Good -/
def lv57 : List (Nat × List Nat) := [(0, [1]), (1, [2])]
def m57 : MC :=
  (.seq
 (.reg false [1] [⟨(some 1), none, true, .box (.t 0)⟩,
 ⟨(some 2), none, false, .mov (.k (.d (.bool false)))⟩])
 (.seq
 (.reg false [2] [⟨(some 3), none, false, .fa 0 0 (.t 1)⟩,
 ⟨(some 4), none, false, .ldv 5 (.t 3)⟩,
 ⟨(some 5), none, true, .call 67 [(.t 4)]⟩,
 ⟨(some 6), none, false, .mov (.t 5)⟩,
 ⟨(some 7), (some (6, true)), false, .fa 1 5 (.t 1)⟩,
 ⟨(some 8), (some (6, true)), false, .ld (some 3) (.t 7)⟩,
 ⟨(some 9), (some (6, true)), true, .call 107 [(.t 8)]⟩,
 ⟨(some 10), none, false, .pick (.t 6) (.t 9) (.k (.d (.bool false)))⟩,
 ⟨(some 2), none, false, .mov (.t 10)⟩])
 .ret))
theorem c57 : (Go.Proofs.Tryz.f57).body.bind (comp prog.P (1, (Go.Proofs.Tryz.f57).ntmps) lv57) = some m57 := by kernel_rfl
theorem r57 : resOK prog.P (Go.Proofs.Tryz.f57).results.toList = true := by kernel_rfl

/-- laws.toLog -/
def lv58 : List (Nat × List Nat) := [(0, [1, 2]), (1, [1, 2, 3]), (2, [1, 2, 3]), (3, [1, 2, 3]), (4, [2, 3]), (5, [2])]
def m58 : MC :=
  (.seq
 (.reg false [1, 2] [⟨(some 1), none, true, .box (.t 0)⟩,
 ⟨(some 2), none, true, .alloc (.st (.cons (.str []) (.cons (.str []) (.cons (.int .i64 0) .nil))))⟩])
 (.seq
 (.reg false [1, 2, 3] [⟨(some 3), none, true, .alloc (.st (.cons (.str []) (.cons (.str []) (.cons (.int .i64 0) .nil))))⟩])
 (.seq
 (.reg false [1, 2, 3] [⟨(some 4), none, false, .fa 0 0 (.t 1)⟩,
 ⟨(some 5), none, false, .ld none (.t 4)⟩,
 ⟨(some 6), none, false, .fa 0 0 (.t 3)⟩,
 ⟨none, none, true, .st 1 (.t 6) (.t 5)⟩])
 (.seq
 (.reg false [1, 2, 3] [⟨(some 7), none, false, .fa 1 1 (.t 1)⟩,
 ⟨(some 8), none, false, .ld none (.t 7)⟩,
 ⟨(some 9), none, false, .fa 1 1 (.t 3)⟩,
 ⟨none, none, true, .st 1 (.t 9) (.t 8)⟩])
 (.seq
 (.reg false [2, 3] [⟨(some 10), none, false, .fa 2 2 (.t 1)⟩,
 ⟨(some 11), none, false, .ld none (.t 10)⟩,
 ⟨(some 12), none, false, .fa 2 2 (.t 3)⟩,
 ⟨none, none, true, .st 1 (.t 12) (.t 11)⟩])
 (.seq
 (.reg false [2] [⟨(some 13), none, false, .ld (some 3) (.t 3)⟩,
 ⟨none, none, true, .st 3 (.t 2) (.t 13)⟩])
 .ret))))))
theorem c58 : (Go.Proofs.Tryz.f58).body.bind (comp prog.P (1, (Go.Proofs.Tryz.f58).ntmps) lv58) = some m58 := by kernel_rfl
theorem r58 : resOK prog.P (Go.Proofs.Tryz.f58).results.toList = true := by kernel_rfl

/-- impl.IsValidLog -/
def lv59 : List (Nat × List Nat) := [(0, [1]), (1, [4]), (2, [2])]
def m59 : MC :=
  (.seq
 (.reg false [1] [⟨(some 1), none, true, .box (.t 0)⟩,
 ⟨(some 2), none, false, .mov (.k (.d (.bool false)))⟩])
 (.seq
 (.reg false [4] [⟨(some 6), none, false, .ld (some 3) (.t 1)⟩,
 ⟨(some 7), none, true, .call 108 [(.t 6)]⟩,
 ⟨(some 5), none, false, .mov (.t 7)⟩,
 ⟨(some 8), none, false, .ext (.t 5) 0⟩,
 ⟨(some 9), none, false, .ext (.t 5) 1⟩,
 ⟨(some 3), none, false, .mov (.t 8)⟩,
 ⟨(some 4), none, false, .mov (.t 9)⟩])
 (.seq
 (.reg false [2] [⟨(some 10), none, false, .mov (.t 4)⟩,
 ⟨(some 2), none, false, .mov (.t 10)⟩])
 .ret)))
theorem c59 : (Go.Proofs.Tryz.f59).body.bind (comp prog.P (1, (Go.Proofs.Tryz.f59).ntmps) lv59) = some m59 := by kernel_rfl
theorem r59 : resOK prog.P (Go.Proofs.Tryz.f59).results.toList = true := by kernel_rfl

/-- laws.eqLog -/
def lv60 : List (Nat × List Nat) := [(0, [2, 3]), (1, [2, 3, 9]), (2, [4]), (3, [2, 3, 14]), (4, [4]), (5, [19]), (6, [4]), (7, [4])]
def m60 : MC :=
  (.seq
 (.reg false [2, 3] [⟨(some 2), none, true, .box (.t 0)⟩,
 ⟨(some 3), none, true, .box (.t 1)⟩,
 ⟨(some 4), none, false, .mov (.k (.d (.bool false)))⟩])
 (.seq
 (.seq
 (.reg false [2, 3, 9] [⟨(some 5), none, false, .fa 0 0 (.t 2)⟩,
 ⟨(some 6), none, false, .ld none (.t 5)⟩,
 ⟨(some 7), none, false, .fa 0 0 (.t 3)⟩,
 ⟨(some 8), none, false, .ld none (.t 7)⟩,
 ⟨(some 9), none, false, .bin .neq (.t 6) (.t 8)⟩])
 (.cond (.t 9)
 (.seq
 (.reg false [4] [⟨(some 4), none, false, .mov (.k (.d (.bool false)))⟩])
 .ret)
 .skip))
 (.seq
 (.seq
 (.reg false [2, 3, 14] [⟨(some 10), none, false, .fa 1 1 (.t 2)⟩,
 ⟨(some 11), none, false, .ld none (.t 10)⟩,
 ⟨(some 12), none, false, .fa 1 1 (.t 3)⟩,
 ⟨(some 13), none, false, .ld none (.t 12)⟩,
 ⟨(some 14), none, false, .bin .neq (.t 11) (.t 13)⟩])
 (.cond (.t 14)
 (.seq
 (.reg false [4] [⟨(some 4), none, false, .mov (.k (.d (.bool false)))⟩])
 .ret)
 .skip))
 (.seq
 (.seq
 (.reg false [19] [⟨(some 15), none, false, .fa 2 2 (.t 2)⟩,
 ⟨(some 16), none, false, .ld none (.t 15)⟩,
 ⟨(some 17), none, false, .fa 2 2 (.t 3)⟩,
 ⟨(some 18), none, false, .ld none (.t 17)⟩,
 ⟨(some 19), none, false, .bin .neq (.t 16) (.t 18)⟩])
 (.cond (.t 19)
 (.seq
 (.reg false [4] [⟨(some 4), none, false, .mov (.k (.d (.bool false)))⟩])
 .ret)
 .skip))
 (.seq
 (.reg false [4] [⟨(some 4), none, false, .mov (.k (.d (.bool true)))⟩])
 .ret)))))
theorem c60 : (Go.Proofs.Tryz.f60).body.bind (comp prog.P (2, (Go.Proofs.Tryz.f60).ntmps) lv60) = some m60 := by kernel_rfl
theorem r60 : resOK prog.P (Go.Proofs.Tryz.f60).results.toList = true := by kernel_rfl

/-- spec.l1Num -/
def lv61 : List (Nat × List Nat) := [(0, [0]), (1, [0, 4]), (2, [2]), (3, [0, 10]), (4, [2]), (5, [2])]
def m61 : MC :=
  (.seq
 (.reg false [0] [⟨(some 2), none, false, .mov (.k (.d (.str [])))⟩])
 (.seq
 (.seq
 (.reg false [0, 4] [⟨(some 3), none, false, .mov (.t 0)⟩,
 ⟨(some 4), none, false, .bin .lss (.t 3) (.k (.d (.int .i64 0)))⟩])
 (.cond (.t 4)
 (.seq
 (.reg false [2] [⟨(some 5), none, false, .mov (.t 0)⟩,
 ⟨(some 6), none, false, .un .neg (.t 5)⟩,
 ⟨(some 7), none, true, .call 61 [(.t 6)]⟩,
 ⟨(some 8), none, false, .bin .add (.k (.d (.str [45]))) (.t 7)⟩,
 ⟨(some 2), none, false, .mov (.t 8)⟩])
 .ret)
 .skip))
 (.seq
 (.seq
 (.reg false [0, 10] [⟨(some 9), none, false, .mov (.t 0)⟩,
 ⟨(some 10), none, false, .bin .lss (.t 9) (.k (.d (.int .i64 10)))⟩])
 (.cond (.t 10)
 (.seq
 (.reg false [2] [⟨(some 11), none, false, .mov (.t 0)⟩,
 ⟨(some 12), none, false, .mov (.t 0)⟩,
 ⟨(some 13), none, false, .bin .add (.t 12) (.k (.d (.int .i64 1)))⟩,
 ⟨(some 14), none, false, .sls (.k (.d (.str [48, 49, 50, 51, 52, 53, 54, 55, 56, 57]))) (some (.t 11)) (some (.t 13))⟩,
 ⟨(some 2), none, false, .mov (.t 14)⟩])
 .ret)
 .skip))
 (.seq
 (.reg true [2] [⟨(some 15), none, false, .mov (.t 0)⟩,
 ⟨(some 16), none, false, .bin .quo (.t 15) (.k (.d (.int .i64 10)))⟩,
 ⟨(some 17), none, false, .callP 61 [(.t 16)]⟩,
 ⟨(some 18), none, false, .mov (.t 0)⟩,
 ⟨(some 19), none, false, .bin .rem (.t 18) (.k (.d (.int .i64 10)))⟩,
 ⟨(some 20), none, false, .mov (.t 0)⟩,
 ⟨(some 21), none, false, .bin .rem (.t 20) (.k (.d (.int .i64 10)))⟩,
 ⟨(some 22), none, false, .bin .add (.t 21) (.k (.d (.int .i64 1)))⟩,
 ⟨(some 23), none, false, .sls (.k (.d (.str [48, 49, 50, 51, 52, 53, 54, 55, 56, 57]))) (some (.t 19)) (some (.t 22))⟩,
 ⟨(some 24), none, false, .bin .add (.t 17) (.t 23)⟩,
 ⟨(some 2), none, false, .mov (.t 24)⟩])
 .ret))))
theorem c61 : (Go.Proofs.Tryz.f61).body.bind (comp prog.P (1, (Go.Proofs.Tryz.f61).ntmps) lv61) = some m61 := by kernel_rfl
theorem r61 : resOK prog.P (Go.Proofs.Tryz.f61).results.toList = true := by kernel_rfl

/-- spec.l25Text -/
def lv62 : List (Nat × List Nat) := [(0, [1]), (1, [1, 3]), (2, [1, 3, 4]), (3, [1, 3, 4, 19]), (4, [1, 3, 4]), (5, [1, 3, 4, 23]), (6, [1, 3, 4]), (7, [1, 3, 4]), (8, [1, 3, 4]), (9, [2]), (1000001, [0, 1, 1, 1, 2, 1, 6, 1, 7, 3, 2, 0, 1, 3, 1, 4, 1, 5, 2, 8, 1, 9, 1, 10, 0, 2, 8, 2, 0, 1, 3, 1, 4, 1, 5, 1, 9, 1, 10, 0])]
def m62 : MC :=
  (.seq
 (.reg false [1] [⟨(some 1), none, true, .box (.t 0)⟩,
 ⟨(some 2), none, false, .mov (.k (.d (.str [])))⟩])
 (.seq
 (.any [] [1, 3] (.q 1 ⟨(some 6), none, false, .fa 1 1 (.t 1)⟩ (.q 2 ⟨(some 7), none, false, .ld none (.t 6)⟩ (.q 6 ⟨(some 11), none, false, .fa 2 2 (.t 1)⟩ (.q 7 ⟨(some 12), none, false, .ld none (.t 11)⟩ (.br (.e 0 ⟨(some 5), none, true, .bs 1 4 (.str []) [(0, (.k (.d (.str [])))), (1, (.k (.d (.str [107, 101, 101, 112])))), (2, (.k (.d (.str [116, 114, 97, 110, 115, 102, 101, 114])))), (3, (.k (.d (.str [100, 101, 115, 116, 114, 111, 121]))))]⟩ (.q 3 ⟨(some 8), none, false, .ia 1 (.t 5) (.t 7)⟩ (.q 4 ⟨(some 9), none, false, .ld none (.t 8)⟩ (.q 5 ⟨(some 10), none, false, .bin .add (.t 9) (.k (.d (.str [32, 100, 117, 101, 32])))⟩ (.e 8 ⟨(some 13), none, true, .call 61 [(.t 12)]⟩ (.q 9 ⟨(some 14), none, false, .bin .add (.t 10) (.t 13)⟩ (.q 10 ⟨(some 3), none, false, .mov (.t 14)⟩ .done)))))))
 (.e 8 ⟨(some 13), none, true, .call 61 [(.t 12)]⟩ (.e 0 ⟨(some 5), none, true, .bs 1 4 (.str []) [(0, (.k (.d (.str [])))), (1, (.k (.d (.str [107, 101, 101, 112])))), (2, (.k (.d (.str [116, 114, 97, 110, 115, 102, 101, 114])))), (3, (.k (.d (.str [100, 101, 115, 116, 114, 111, 121]))))]⟩ (.q 3 ⟨(some 8), none, false, .ia 1 (.t 5) (.t 7)⟩ (.q 4 ⟨(some 9), none, false, .ld none (.t 8)⟩ (.q 5 ⟨(some 10), none, false, .bin .add (.t 9) (.k (.d (.str [32, 100, 117, 101, 32])))⟩ (.q 9 ⟨(some 14), none, false, .bin .add (.t 10) (.t 13)⟩ (.q 10 ⟨(some 3), none, false, .mov (.t 14)⟩ .done)))))))))))))
 (.seq
 (.seq
 (.reg false [1, 3, 4] [⟨(some 4), none, false, .mov (.k (.d (.int .i64 0)))⟩])
 (.block 0
 (.loop
 (.seq
 (.seq
 (.reg false [1, 3, 4, 19] [⟨(some 15), none, false, .mov (.t 4)⟩,
 ⟨(some 16), none, false, .fa 3 3 (.t 1)⟩,
 ⟨(some 17), none, false, .ld none (.t 16)⟩,
 ⟨(some 18), none, false, .len false (.t 17)⟩,
 ⟨(some 19), none, false, .bin .lss (.t 15) (.t 18)⟩])
 (.cond (.t 19)
 .skip
 (.exit 0)))
 (.seq
 (.block 1
 (.seq
 (.seq
 (.reg false [1, 3, 4, 23] [⟨(some 22), none, false, .mov (.t 4)⟩,
 ⟨(some 23), none, false, .bin .eql (.t 22) (.k (.d (.int .i64 0)))⟩])
 (.cond (.t 23)
 (.reg false [1, 3, 4] [⟨(some 24), none, false, .mov (.t 3)⟩,
 ⟨(some 25), none, false, .bin .add (.t 24) (.k (.d (.str [32, 104, 101, 108, 100, 32])))⟩,
 ⟨(some 3), none, false, .mov (.t 25)⟩])
 (.reg false [1, 3, 4] [⟨(some 26), none, false, .mov (.t 3)⟩,
 ⟨(some 27), none, false, .bin .add (.t 26) (.k (.d (.str [44])))⟩,
 ⟨(some 3), none, false, .mov (.t 27)⟩])))
 (.reg false [1, 3, 4] [⟨(some 28), none, false, .mov (.t 3)⟩,
 ⟨(some 29), none, false, .fa 3 3 (.t 1)⟩,
 ⟨(some 30), none, false, .ld none (.t 29)⟩,
 ⟨(some 31), none, false, .mov (.t 4)⟩,
 ⟨(some 32), none, false, .ia 1 (.t 30) (.t 31)⟩,
 ⟨(some 33), none, false, .ld none (.t 32)⟩,
 ⟨(some 34), none, true, .call 61 [(.t 33)]⟩,
 ⟨(some 35), none, false, .bin .add (.t 28) (.t 34)⟩,
 ⟨(some 3), none, false, .mov (.t 35)⟩])))
 (.reg false [1, 3, 4] [⟨(some 20), none, false, .mov (.t 4)⟩,
 ⟨(some 21), none, false, .bin .add (.t 20) (.k (.d (.int .i64 1)))⟩,
 ⟨(some 4), none, false, .mov (.t 21)⟩]))))))
 (.seq
 (.reg false [2] [⟨(some 36), none, false, .mov (.t 3)⟩,
 ⟨(some 2), none, false, .mov (.t 36)⟩])
 .ret))))
theorem c62 : (Go.Proofs.Tryz.f62).body.bind (comp prog.P (1, (Go.Proofs.Tryz.f62).ntmps) lv62) = some m62 := by kernel_rfl
theorem r62 : resOK prog.P (Go.Proofs.Tryz.f62).results.toList = true := by kernel_rfl

/-- impl.decimal -/
def lv63 : List (Nat × List Nat) := [(0, [0]), (1, [2])]
def m63 : MC :=
  (.seq
 (.reg false [0] [⟨(some 2), none, false, .mov (.k (.d (.str [])))⟩])
 (.seq
 (.reg false [2] [⟨(some 3), none, false, .mov (.t 0)⟩,
 ⟨(some 4), none, true, .call 109 [(.t 3)]⟩,
 ⟨(some 2), none, false, .mov (.t 4)⟩])
 .ret))
theorem c63 : (Go.Proofs.Tryz.f63).body.bind (comp prog.P (1, (Go.Proofs.Tryz.f63).ntmps) lv63) = some m63 := by kernel_rfl
theorem r63 : resOK prog.P (Go.Proofs.Tryz.f63).results.toList = true := by kernel_rfl

/-- impl.caseText -/
def lv64 : List (Nat × List Nat) := [(0, [1]), (1, [1, 3]), (2, [1, 3, 18]), (3, [3]), (4, [2]), (1000001, [0, 1, 1, 1, 2, 1, 3, 1, 7, 1, 8, 3, 2, 0, 1, 4, 1, 5, 1, 6, 2, 9, 1, 10, 1, 11, 0, 2, 9, 2, 0, 1, 4, 1, 5, 1, 6, 1, 10, 1, 11, 0])]
def m64 : MC :=
  (.seq
 (.reg false [1] [⟨(some 1), none, true, .box (.t 0)⟩,
 ⟨(some 2), none, false, .mov (.k (.d (.str [])))⟩])
 (.seq
 (.any [] [1, 3] (.q 1 ⟨(some 5), none, false, .fa 1 1 (.t 1)⟩ (.q 2 ⟨(some 6), none, false, .ld none (.t 5)⟩ (.q 3 ⟨(some 7), none, false, .bin .sub (.t 6) (.k (.d (.int .i64 1)))⟩ (.q 7 ⟨(some 11), none, false, .fa 2 2 (.t 1)⟩ (.q 8 ⟨(some 12), none, false, .ld none (.t 11)⟩ (.br (.e 0 ⟨(some 4), none, true, .bs 1 3 (.str []) [(0, (.k (.d (.str [107, 101, 101, 112])))), (1, (.k (.d (.str [116, 114, 97, 110, 115, 102, 101, 114])))), (2, (.k (.d (.str [100, 101, 115, 116, 114, 111, 121]))))]⟩ (.q 4 ⟨(some 8), none, false, .ia 1 (.t 4) (.t 7)⟩ (.q 5 ⟨(some 9), none, false, .ld none (.t 8)⟩ (.q 6 ⟨(some 10), none, false, .bin .add (.t 9) (.k (.d (.str [32, 100, 117, 101, 32])))⟩ (.e 9 ⟨(some 13), none, true, .call 63 [(.t 12)]⟩ (.q 10 ⟨(some 14), none, false, .bin .add (.t 10) (.t 13)⟩ (.q 11 ⟨(some 3), none, false, .mov (.t 14)⟩ .done)))))))
 (.e 9 ⟨(some 13), none, true, .call 63 [(.t 12)]⟩ (.e 0 ⟨(some 4), none, true, .bs 1 3 (.str []) [(0, (.k (.d (.str [107, 101, 101, 112])))), (1, (.k (.d (.str [116, 114, 97, 110, 115, 102, 101, 114])))), (2, (.k (.d (.str [100, 101, 115, 116, 114, 111, 121]))))]⟩ (.q 4 ⟨(some 8), none, false, .ia 1 (.t 4) (.t 7)⟩ (.q 5 ⟨(some 9), none, false, .ld none (.t 8)⟩ (.q 6 ⟨(some 10), none, false, .bin .add (.t 9) (.k (.d (.str [32, 100, 117, 101, 32])))⟩ (.q 10 ⟨(some 14), none, false, .bin .add (.t 10) (.t 13)⟩ (.q 11 ⟨(some 3), none, false, .mov (.t 14)⟩ .done))))))))))))))
 (.seq
 (.seq
 (.reg false [1, 3, 18] [⟨(some 15), none, false, .fa 3 3 (.t 1)⟩,
 ⟨(some 16), none, false, .ld none (.t 15)⟩,
 ⟨(some 17), none, false, .len false (.t 16)⟩,
 ⟨(some 18), none, false, .bin .gtr (.t 17) (.k (.d (.int .i64 0)))⟩])
 (.cond (.t 18)
 (.reg false [3] [⟨(some 19), none, false, .mov (.t 3)⟩,
 ⟨(some 20), none, false, .fa 3 3 (.t 1)⟩,
 ⟨(some 21), none, false, .ld none (.t 20)⟩,
 ⟨(some 22), none, true, .call 110 [(.t 21), (.k (.d (.str [44])))]⟩,
 ⟨(some 23), none, false, .bin .add (.k (.d (.str [32, 104, 101, 108, 100, 32]))) (.t 22)⟩,
 ⟨(some 24), none, false, .bin .add (.t 19) (.t 23)⟩,
 ⟨(some 3), none, false, .mov (.t 24)⟩])
 .skip))
 (.seq
 (.reg false [2] [⟨(some 25), none, false, .mov (.t 3)⟩,
 ⟨(some 2), none, false, .mov (.t 25)⟩])
 .ret))))
theorem c64 : (Go.Proofs.Tryz.f64).body.bind (comp prog.P (1, (Go.Proofs.Tryz.f64).ntmps) lv64) = some m64 := by kernel_rfl
theorem r64 : resOK prog.P (Go.Proofs.Tryz.f64).results.toList = true := by kernel_rfl

/-- laws.szCaseS -/
def lv65 : List (Nat × List Nat) := [(0, [0, 1]), (1, [0, 1]), (2, [0, 1, 11]), (3, [4]), (4, [0, 1, 5]), (5, [0, 1, 5, 15]), (6, [0, 1, 5]), (7, [0, 1, 5]), (8, [0, 1, 5, 25]), (9, [4]), (10, [4])]
def m65 : MC :=
  (.seq
 (.reg false [0, 1] [⟨(some 4), none, false, .mov (.k (.d (.int .i64 0)))⟩])
 (.seq
 (.reg false [0, 1] [⟨(some 6), none, false, .mov (.t 1)⟩,
 ⟨(some 7), none, false, .mov (.t 0)⟩,
 ⟨(some 8), none, false, .len false (.t 7)⟩,
 ⟨(some 9), none, false, .bin .sub (.t 6) (.t 8)⟩,
 ⟨(some 1), none, false, .mov (.t 9)⟩])
 (.seq
 (.seq
 (.reg false [0, 1, 11] [⟨(some 10), none, false, .mov (.t 1)⟩,
 ⟨(some 11), none, false, .bin .lss (.t 10) (.k (.d (.int .i64 0)))⟩])
 (.cond (.t 11)
 (.seq
 (.reg false [4] [⟨(some 4), none, false, .mov (.k (.d (.int .i64 (-1))))⟩])
 .ret)
 .skip))
 (.seq
 (.seq
 (.reg false [0, 1, 5] [⟨(some 5), none, false, .mov (.k (.d (.int .i64 0)))⟩])
 (.block 0
 (.loop
 (.seq
 (.seq
 (.reg false [0, 1, 5, 15] [⟨(some 12), none, false, .mov (.t 5)⟩,
 ⟨(some 13), none, false, .mov (.t 0)⟩,
 ⟨(some 14), none, false, .len false (.t 13)⟩,
 ⟨(some 15), none, false, .bin .lss (.t 12) (.t 14)⟩])
 (.cond (.t 15)
 .skip
 (.exit 0)))
 (.seq
 (.block 1
 (.seq
 (.reg false [0, 1, 5] [⟨(some 18), none, false, .mov (.t 0)⟩,
 ⟨(some 19), none, false, .mov (.t 5)⟩,
 ⟨(some 20), none, false, .ia 4 (.t 18) (.t 19)⟩,
 ⟨(some 21), none, false, .ld (some 4) (.t 20)⟩,
 ⟨(some 22), none, false, .mov (.t 1)⟩,
 ⟨(some 23), none, true, .call 111 [(.t 21), (.t 22)]⟩,
 ⟨(some 1), none, false, .mov (.t 23)⟩])
 (.seq
 (.reg false [0, 1, 5, 25] [⟨(some 24), none, false, .mov (.t 1)⟩,
 ⟨(some 25), none, false, .bin .lss (.t 24) (.k (.d (.int .i64 0)))⟩])
 (.cond (.t 25)
 (.seq
 (.reg false [4] [⟨(some 4), none, false, .mov (.k (.d (.int .i64 (-1))))⟩])
 .ret)
 .skip))))
 (.reg false [0, 1, 5] [⟨(some 16), none, false, .mov (.t 5)⟩,
 ⟨(some 17), none, false, .bin .add (.t 16) (.k (.d (.int .i64 1)))⟩,
 ⟨(some 5), none, false, .mov (.t 17)⟩]))))))
 (.seq
 (.reg false [4] [⟨(some 26), none, false, .mov (.t 1)⟩,
 ⟨(some 4), none, false, .mov (.t 26)⟩])
 .ret)))))
theorem c65 : (Go.Proofs.Tryz.f65).body.bind (comp prog.P (1, (Go.Proofs.Tryz.f65).ntmps) lv65) = some m65 := by kernel_rfl
theorem r65 : resOK prog.P (Go.Proofs.Tryz.f65).results.toList = true := by kernel_rfl

/-- laws.szStringS -/
def lv66 : List (Nat × List Nat) := [(0, [0, 1]), (1, [0, 1]), (2, [0, 1, 11]), (3, [4]), (4, [0, 1, 5]), (5, [0, 1, 5, 15]), (6, [0, 1, 5]), (7, [0, 1, 5]), (8, [0, 1, 5, 26]), (9, [4]), (10, [4])]
def m66 : MC :=
  (.seq
 (.reg false [0, 1] [⟨(some 4), none, false, .mov (.k (.d (.int .i64 0)))⟩])
 (.seq
 (.reg false [0, 1] [⟨(some 6), none, false, .mov (.t 1)⟩,
 ⟨(some 7), none, false, .mov (.t 0)⟩,
 ⟨(some 8), none, false, .len false (.t 7)⟩,
 ⟨(some 9), none, false, .bin .sub (.t 6) (.t 8)⟩,
 ⟨(some 1), none, false, .mov (.t 9)⟩])
 (.seq
 (.seq
 (.reg false [0, 1, 11] [⟨(some 10), none, false, .mov (.t 1)⟩,
 ⟨(some 11), none, false, .bin .lss (.t 10) (.k (.d (.int .i64 0)))⟩])
 (.cond (.t 11)
 (.seq
 (.reg false [4] [⟨(some 4), none, false, .mov (.k (.d (.int .i64 (-1))))⟩])
 .ret)
 .skip))
 (.seq
 (.seq
 (.reg false [0, 1, 5] [⟨(some 5), none, false, .mov (.k (.d (.int .i64 0)))⟩])
 (.block 0
 (.loop
 (.seq
 (.seq
 (.reg false [0, 1, 5, 15] [⟨(some 12), none, false, .mov (.t 5)⟩,
 ⟨(some 13), none, false, .mov (.t 0)⟩,
 ⟨(some 14), none, false, .len false (.t 13)⟩,
 ⟨(some 15), none, false, .bin .lss (.t 12) (.t 14)⟩])
 (.cond (.t 15)
 .skip
 (.exit 0)))
 (.seq
 (.block 1
 (.seq
 (.reg false [0, 1, 5] [⟨(some 18), none, false, .mov (.t 1)⟩,
 ⟨(some 19), none, false, .mov (.t 0)⟩,
 ⟨(some 20), none, false, .mov (.t 5)⟩,
 ⟨(some 21), none, false, .ia 1 (.t 19) (.t 20)⟩,
 ⟨(some 22), none, false, .ld none (.t 21)⟩,
 ⟨(some 23), none, false, .len true (.t 22)⟩,
 ⟨(some 24), none, false, .bin .sub (.t 18) (.t 23)⟩,
 ⟨(some 1), none, false, .mov (.t 24)⟩])
 (.seq
 (.reg false [0, 1, 5, 26] [⟨(some 25), none, false, .mov (.t 1)⟩,
 ⟨(some 26), none, false, .bin .lss (.t 25) (.k (.d (.int .i64 0)))⟩])
 (.cond (.t 26)
 (.seq
 (.reg false [4] [⟨(some 4), none, false, .mov (.k (.d (.int .i64 (-1))))⟩])
 .ret)
 .skip))))
 (.reg false [0, 1, 5] [⟨(some 16), none, false, .mov (.t 5)⟩,
 ⟨(some 17), none, false, .bin .add (.t 16) (.k (.d (.int .i64 1)))⟩,
 ⟨(some 5), none, false, .mov (.t 17)⟩]))))))
 (.seq
 (.reg false [4] [⟨(some 27), none, false, .mov (.t 1)⟩,
 ⟨(some 4), none, false, .mov (.t 27)⟩])
 .ret)))))
theorem c66 : (Go.Proofs.Tryz.f66).body.bind (comp prog.P (1, (Go.Proofs.Tryz.f66).ntmps) lv66) = some m66 := by kernel_rfl
theorem r66 : resOK prog.P (Go.Proofs.Tryz.f66).results.toList = true := by kernel_rfl

/-- spec.l25Good -/
def lv67 : List (Nat × List Nat) := [(0, [1]), (1, [1, 37]), (2, [2]), (3, [1, 3]), (4, [1, 3, 42]), (5, [1, 3]), (6, [1, 3, 71]), (7, [2]), (8, [2])]
def m67 : MC :=
  (.seq
 (.reg false [1] [⟨(some 1), none, true, .box (.t 0)⟩,
 ⟨(some 2), none, false, .mov (.k (.d (.bool false)))⟩])
 (.seq
 (.seq
 (.reg false [1, 37] [⟨(some 4), none, false, .fa 0 0 (.t 1)⟩,
 ⟨(some 5), none, false, .ld none (.t 4)⟩,
 ⟨(some 6), none, true, .call 95 [(.t 5)]⟩,
 ⟨(some 7), none, false, .un .not (.t 6)⟩,
 ⟨(some 8), none, false, .mov (.t 7)⟩,
 ⟨(some 9), (some (8, false)), false, .fa 1 1 (.t 1)⟩,
 ⟨(some 10), (some (8, false)), false, .ld none (.t 9)⟩,
 ⟨(some 11), (some (8, false)), false, .len false (.t 10)⟩,
 ⟨(some 12), (some (8, false)), false, .bin .gtr (.t 11) (.k (.d (.int .i64 6)))⟩,
 ⟨(some 13), none, false, .pick (.t 8) (.k (.d (.bool true))) (.t 12)⟩,
 ⟨(some 14), none, false, .mov (.t 13)⟩,
 ⟨(some 15), (some (14, false)), false, .fa 2 2 (.t 1)⟩,
 ⟨(some 16), (some (14, false)), false, .ld none (.t 15)⟩,
 ⟨(some 17), (some (14, false)), true, .call 101 [(.t 16), (.k (.d (.int .i64 0))), (.k (.d (.int .i64 999)))]⟩,
 ⟨(some 18), (some (14, false)), false, .un .not (.t 17)⟩,
 ⟨(some 19), none, false, .pick (.t 14) (.k (.d (.bool true))) (.t 18)⟩,
 ⟨(some 20), none, false, .mov (.t 19)⟩,
 ⟨(some 21), (some (20, false)), false, .fa 3 3 (.t 1)⟩,
 ⟨(some 22), (some (20, false)), false, .ld none (.t 21)⟩,
 ⟨(some 23), (some (20, false)), true, .call 101 [(.t 22), (.k (.d (.int .i64 0))), (.k (.d (.int .i64 999)))]⟩,
 ⟨(some 24), (some (20, false)), false, .un .not (.t 23)⟩,
 ⟨(some 25), none, false, .pick (.t 20) (.k (.d (.bool true))) (.t 24)⟩,
 ⟨(some 26), none, false, .mov (.t 25)⟩,
 ⟨(some 27), (some (26, false)), false, .fa 4 4 (.t 1)⟩,
 ⟨(some 28), (some (26, false)), false, .ld none (.t 27)⟩,
 ⟨(some 29), (some (26, false)), false, .len false (.t 28)⟩,
 ⟨(some 30), (some (26, false)), false, .bin .gtr (.t 29) (.k (.d (.int .i64 0)))⟩,
 ⟨(some 31), (some (26, false)), false, .mov (.t 30)⟩,
 ⟨(some 32), (some (31, true)), false, .fa 4 4 (.t 1)⟩,
 ⟨(some 33), (some (31, true)), false, .ld none (.t 32)⟩,
 ⟨(some 34), (some (31, true)), true, .call 112 [(.t 33)]⟩,
 ⟨(some 35), (some (31, true)), false, .un .not (.t 34)⟩,
 ⟨(some 36), (some (26, false)), false, .pick (.t 31) (.t 35) (.k (.d (.bool false)))⟩,
 ⟨(some 37), none, false, .pick (.t 26) (.k (.d (.bool true))) (.t 36)⟩])
 (.cond (.t 37)
 (.seq
 (.reg false [2] [⟨(some 2), none, false, .mov (.k (.d (.bool false)))⟩])
 .ret)
 .skip))
 (.seq
 (.seq
 (.reg false [1, 3] [⟨(some 3), none, false, .mov (.k (.d (.int .i64 0)))⟩])
 (.block 0
 (.loop
 (.seq
 (.seq
 (.reg false [1, 3, 42] [⟨(some 38), none, false, .mov (.t 3)⟩,
 ⟨(some 39), none, false, .fa 1 1 (.t 1)⟩,
 ⟨(some 40), none, false, .ld none (.t 39)⟩,
 ⟨(some 41), none, false, .len false (.t 40)⟩,
 ⟨(some 42), none, false, .bin .lss (.t 38) (.t 41)⟩])
 (.cond (.t 42)
 .skip
 (.exit 0)))
 (.seq
 (.block 1
 (.seq
 (.reg true [1, 3, 71] [⟨(some 45), none, false, .fa 1 1 (.t 1)⟩,
 ⟨(some 46), none, false, .ld none (.t 45)⟩,
 ⟨(some 47), none, false, .mov (.t 3)⟩,
 ⟨(some 48), none, false, .ia 4 (.t 46) (.t 47)⟩,
 ⟨(some 49), none, false, .ld (some 4) (.t 48)⟩,
 ⟨(some 50), none, false, .callP 113 [(.t 49)]⟩,
 ⟨(some 51), none, false, .un .not (.t 50)⟩,
 ⟨(some 52), none, false, .mov (.t 51)⟩,
 ⟨(some 53), (some (52, false)), false, .mov (.t 3)⟩,
 ⟨(some 54), (some (52, false)), false, .bin .gtr (.t 53) (.k (.d (.int .i64 0)))⟩,
 ⟨(some 55), (some (52, false)), false, .mov (.t 54)⟩,
 ⟨(some 56), (some (55, true)), false, .fa 1 1 (.t 1)⟩,
 ⟨(some 57), (some (55, true)), false, .ld none (.t 56)⟩,
 ⟨(some 58), (some (55, true)), false, .mov (.t 3)⟩,
 ⟨(some 59), (some (55, true)), false, .bin .sub (.t 58) (.k (.d (.int .i64 1)))⟩,
 ⟨(some 60), (some (55, true)), false, .ia 4 (.t 57) (.t 59)⟩,
 ⟨(some 61), (some (55, true)), false, .fa 0 0 (.t 60)⟩,
 ⟨(some 62), (some (55, true)), false, .ld none (.t 61)⟩,
 ⟨(some 63), (some (55, true)), false, .fa 1 1 (.t 1)⟩,
 ⟨(some 64), (some (55, true)), false, .ld none (.t 63)⟩,
 ⟨(some 65), (some (55, true)), false, .mov (.t 3)⟩,
 ⟨(some 66), (some (55, true)), false, .ia 4 (.t 64) (.t 65)⟩,
 ⟨(some 67), (some (55, true)), false, .fa 0 0 (.t 66)⟩,
 ⟨(some 68), (some (55, true)), false, .ld none (.t 67)⟩,
 ⟨(some 69), (some (55, true)), false, .bin .geq (.t 62) (.t 68)⟩,
 ⟨(some 70), (some (52, false)), false, .pick (.t 55) (.t 69) (.k (.d (.bool false)))⟩,
 ⟨(some 71), none, false, .pick (.t 52) (.k (.d (.bool true))) (.t 70)⟩])
 (.cond (.t 71)
 (.seq
 (.reg false [2] [⟨(some 2), none, false, .mov (.k (.d (.bool false)))⟩])
 .ret)
 .skip)))
 (.reg false [1, 3] [⟨(some 43), none, false, .mov (.t 3)⟩,
 ⟨(some 44), none, false, .bin .add (.t 43) (.k (.d (.int .i64 1)))⟩,
 ⟨(some 3), none, false, .mov (.t 44)⟩]))))))
 (.seq
 (.reg false [2] [⟨(some 2), none, false, .mov (.k (.d (.bool true)))⟩])
 .ret))))
theorem c67 : (Go.Proofs.Tryz.f67).body.bind (comp prog.P (1, (Go.Proofs.Tryz.f67).ntmps) lv67) = some m67 := by kernel_rfl
theorem r67 : resOK prog.P (Go.Proofs.Tryz.f67).results.toList = true := by kernel_rfl

/-- laws.toCaseS -/
def lv70 : List (Nat × List Nat) := [(0, [0]), (1, [0, 3]), (2, [0, 3, 4]), (3, [0, 3, 4, 11]), (4, [0, 3, 4]), (5, [0, 3, 4]), (6, [2])]
def m70 : MC :=
  (.seq
 (.reg false [0] [⟨(some 2), none, false, .mov (.k .nil)⟩])
 (.seq
 (.reg false [0, 3] [⟨(some 5), none, false, .mov (.t 0)⟩,
 ⟨(some 6), none, false, .len false (.t 5)⟩,
 ⟨(some 7), none, true, .mk 4 48 (.st (.cons (.int .i64 0) (.cons (.int .i64 0) (.cons (.int .i64 0) (.cons (.sl true 1 .nil) .nil))))) (.t 6)⟩,
 ⟨(some 3), none, false, .mov (.t 7)⟩])
 (.seq
 (.seq
 (.reg false [0, 3, 4] [⟨(some 4), none, false, .mov (.k (.d (.int .i64 0)))⟩])
 (.block 0
 (.loop
 (.seq
 (.seq
 (.reg false [0, 3, 4, 11] [⟨(some 8), none, false, .mov (.t 4)⟩,
 ⟨(some 9), none, false, .mov (.t 0)⟩,
 ⟨(some 10), none, false, .len false (.t 9)⟩,
 ⟨(some 11), none, false, .bin .lss (.t 8) (.t 10)⟩])
 (.cond (.t 11)
 .skip
 (.exit 0)))
 (.seq
 (.block 1
 (.reg false [0, 3, 4] [⟨(some 14), none, false, .mov (.t 3)⟩,
 ⟨(some 15), none, false, .mov (.t 4)⟩,
 ⟨(some 16), none, false, .mov (.t 0)⟩,
 ⟨(some 17), none, false, .mov (.t 4)⟩,
 ⟨(some 18), none, false, .ia 4 (.t 16) (.t 17)⟩,
 ⟨(some 19), none, false, .ld (some 4) (.t 18)⟩,
 ⟨(some 20), none, true, .call 118 [(.t 19)]⟩,
 ⟨(some 21), none, false, .ia 4 (.t 14) (.t 15)⟩,
 ⟨none, none, true, .st 4 (.t 21) (.t 20)⟩]))
 (.reg false [0, 3, 4] [⟨(some 12), none, false, .mov (.t 4)⟩,
 ⟨(some 13), none, false, .bin .add (.t 12) (.k (.d (.int .i64 1)))⟩,
 ⟨(some 4), none, false, .mov (.t 13)⟩]))))))
 (.seq
 (.reg false [2] [⟨(some 22), none, false, .mov (.t 3)⟩,
 ⟨(some 2), none, false, .mov (.t 22)⟩])
 .ret))))
theorem c70 : (Go.Proofs.Tryz.f70).body.bind (comp prog.P (1, (Go.Proofs.Tryz.f70).ntmps) lv70) = some m70 := by kernel_rfl
theorem r70 : resOK prog.P (Go.Proofs.Tryz.f70).results.toList = true := by kernel_rfl

end Go.Pe.Tryz
