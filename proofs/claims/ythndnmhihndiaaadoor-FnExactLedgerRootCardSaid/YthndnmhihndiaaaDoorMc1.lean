/-
The compact code of the functions that the law reaches, printed by gen.py, each with the proof that the machine's code is compiled to it.
-/
import Derived.Test.YthndnmhihndiaaaDoorPeD
import Derived.Lib.ItoaNum
import Derived.Lib.LaidTab
import Derived.Test.YthndnmhihndiaaaDoorProg
import Derived.KernelRfl
set_option maxRecDepth 100000
namespace Go.Pe.Tryd
open Go.Pe

/-- of the start-up memory it is asked that the library's table of powers of ten stands, that a number of the library's is there. -/
theorem tab_stab {P : Program} {n : String} {k : IntKind} {zs : List Int} {g : Nat} (hg : P.globalNamed n = some g) (w w' : World) (_ : w.heap.size ≤ w'.heap.size) (hk : ∀ b, b < w.heap.size → w'.heap[b]? = w.heap[b]?) (h : Go.Lib.TabIs P w n k zs) : Go.Lib.TabIs P w' n k zs := by
  unfold Go.Lib.TabIs World.var? at h ⊢
  rw [hg] at h ⊢
  simp only [Option.bind_some] at h ⊢
  by_cases hb : g < w.heap.size
  · rw [hk g hb]; exact h
  · rw [Array.getElem?_eq_none (by omega)] at h
    simp at h
theorem cell_stab (g : Nat) (w w' : World) (hk : ∀ b, b < w.heap.size → w'.heap[b]? = w.heap[b]?) (h : ∃ m, w.cell? ⟨g, 0, none⟩ = some (.int .i64 m)) : ∃ m, w'.cell? ⟨g, 0, none⟩ = some (.int .i64 m) := by
  obtain ⟨m, h⟩ := h
  by_cases hb : g < w.heap.size
  · refine ⟨m, ?_⟩
    unfold World.cell? at h ⊢
    rw [hk g hb]; exact h
  · have hn : w.heap[g]? = none := Array.getElem?_eq_none (by omega)
    simp [World.cell?, hn] at h
noncomputable def prog : PG := ⟨Go.Proofs.Tryd.prog, fun w => (Go.Lib.TabIs Go.Proofs.Tryd.prog w "internal/strconv.uint64pow10" .u64 Go.Lib.pow10Tab) ∧ (∃ m, w.cell? ⟨0, 0, none⟩ = some (.int .i64 m)), fun w w' hs hk h => ⟨tab_stab (show Go.Proofs.Tryd.prog.globalNamed "internal/strconv.uint64pow10" = some 3 by kernel_rfl) w w' hs hk h.1, cell_stab 0 w w' hk h.2⟩⟩
theorem tabOf {w : World} (h : prog.F w) : Go.Lib.TabIs Go.Proofs.Tryd.prog w "internal/strconv.uint64pow10" .u64 Go.Lib.pow10Tab := h.1
theorem maxOf {w : World} (h : prog.F w) : ∃ m, w.cell? ⟨0, 0, none⟩ = some (.int .i64 m) := h.2

theorem sz51 : sizeOfT prog.P 51 = some 5 := by kernel_rfl

theorem sz92 : sizeOfT prog.P 92 = some 4 := by kernel_rfl

/-- impl.round: the body of its loop over an iterator -/
def lvb78 : List (Nat × List Nat) := [(4, [3, 4, 10]), (5, [3, 4]), (6, [3, 4]), (1000005, [1, 10, 1, 0, 1, 1, 1, 2, 1, 3, 1, 4, 1, 5, 1, 6, 2, 7, 2, 8, 2, 9, 2, 10, 0]), (1000006, [1, 6, 1, 0, 1, 1, 1, 2, 1, 3, 2, 4, 2, 5, 2, 6, 0])]
def mb78 : MC :=
  (.block 1
 (.seq
 (.reg false [3, 4, 10] [⟨(some 8), none, false, .mov (.t 4)⟩,
 ⟨(some 9), none, false, .len false (.t 8)⟩,
 ⟨(some 10), none, false, .bin .eql (.t 9) (.k (.d (.int .i64 2)))⟩])
 (.cond (.t 10)
 (.any [10] [3, 4] (.q 0 ⟨(some 11), none, false, .ld none (.t 3)⟩ (.q 1 ⟨(some 12), none, false, .mov (.t 4)⟩ (.q 2 ⟨(some 13), none, false, .ia 1 (.t 12) (.k (.d (.int .i64 0)))⟩ (.q 3 ⟨(some 14), none, false, .ld none (.t 13)⟩ (.q 4 ⟨(some 15), none, false, .mov (.t 4)⟩ (.q 5 ⟨(some 16), none, false, .ia 1 (.t 15) (.k (.d (.int .i64 1)))⟩ (.q 6 ⟨(some 17), none, false, .ld none (.t 16)⟩ (.e 7 ⟨(some 18), none, true, .call 108 [(.t 14), (.t 17)]⟩ (.e 8 ⟨(some 19), none, true, .bs 1 1 (.int .i64 0) [(0, (.t 18))]⟩ (.e 9 ⟨(some 20), none, true, .app 1 8 (.t 11) (.t 19)⟩ (.e 10 ⟨none, none, true, .st 1 (.t 3) (.t 20)⟩ .done))))))))))))
 (.any [6] [3, 4] (.q 0 ⟨(some 21), none, false, .ld none (.t 3)⟩ (.q 1 ⟨(some 22), none, false, .mov (.t 4)⟩ (.q 2 ⟨(some 23), none, false, .ia 1 (.t 22) (.k (.d (.int .i64 0)))⟩ (.q 3 ⟨(some 24), none, false, .ld none (.t 23)⟩ (.e 4 ⟨(some 25), none, true, .bs 1 1 (.int .i64 0) [(0, (.t 24))]⟩ (.e 5 ⟨(some 26), none, true, .app 1 8 (.t 21) (.t 25)⟩ (.e 6 ⟨none, none, true, .st 1 (.t 3) (.t 26)⟩ .done)))))))))))
theorem cb78 : (Go.Proofs.Tryd.f78).body.bind (fun c => (rfBody c).bind (comp prog.P (8, (Go.Proofs.Tryd.f78).ntmps) lvb78)) = some mb78 := by kernel_rfl
theorem nb78 : (Go.Proofs.Tryd.f78).body.bind (fun c => (rfBody c).map noDeferC) = some true := by kernel_rfl

/-- laws.FnExactLedgerRoot -/
def lv4 : List (Nat × List Nat) := [(0, [1]), (1, [1, 3]), (2, [1, 3]), (3, [1, 13]), (4, [2]), (5, [1, 4, 5]), (6, [1, 4, 5, 6]), (7, [1, 4, 5, 6, 7, 8]), (8, [1, 6, 34]), (9, [2]), (10, [39]), (11, [2]), (12, [2])]
def m4 : MC :=
  (.seq
 (.reg false [1] [⟨(some 1), none, true, .box (.t 0)⟩,
 ⟨(some 2), none, false, .mov (.k (.d (.bool false)))⟩])
 (.seq
 (.reg false [1, 3] [⟨(some 3), none, false, .mov (.k (.d (.int .i64 1048576)))⟩])
 (.seq
 (.reg false [1, 3] [⟨(some 9), none, false, .ldv 5 (.t 1)⟩,
 ⟨(some 10), none, false, .mov (.t 3)⟩,
 ⟨(some 11), none, true, .call 20 [(.t 9), (.t 10)]⟩,
 ⟨(some 3), none, false, .mov (.t 11)⟩])
 (.seq
 (.seq
 (.reg false [1, 13] [⟨(some 12), none, false, .mov (.t 3)⟩,
 ⟨(some 13), none, false, .bin .lss (.t 12) (.k (.d (.int .i64 0)))⟩])
 (.cond (.t 13)
 (.seq
 (.reg false [2] [⟨(some 2), none, false, .mov (.k (.d (.bool true)))⟩])
 .ret)
 .skip))
 (.seq
 (.reg false [1, 4, 5] [⟨(some 15), none, false, .ldv 5 (.t 1)⟩,
 ⟨(some 16), none, true, .call 22 [(.t 15)]⟩,
 ⟨(some 17), none, true, .call 21 [(.t 16)]⟩,
 ⟨(some 14), none, false, .mov (.t 17)⟩,
 ⟨(some 18), none, false, .ext (.t 14) 0⟩,
 ⟨(some 19), none, false, .ext (.t 14) 1⟩,
 ⟨(some 4), none, false, .mov (.t 18)⟩,
 ⟨(some 5), none, false, .mov (.t 19)⟩])
 (.seq
 (.reg false [1, 4, 5, 6] [⟨(some 20), none, false, .ldv 5 (.t 1)⟩,
 ⟨(some 21), none, true, .call 22 [(.t 20)]⟩,
 ⟨(some 6), none, true, .alloc (.st (.cons (.int .i64 0) (.cons (.sl true 4 .nil) (.cons (.int .i64 0) (.cons (.int .i64 0) (.cons (.sl true 1 .nil) .nil))))))⟩,
 ⟨none, none, true, .st 5 (.t 6) (.t 21)⟩])
 (.seq
 (.reg false [1, 4, 5, 6, 7, 8] [⟨(some 23), none, false, .ldv 5 (.t 6)⟩,
 ⟨(some 24), none, true, .call 23 [(.t 23)]⟩,
 ⟨(some 22), none, false, .mov (.t 24)⟩,
 ⟨(some 25), none, false, .ext (.t 22) 0⟩,
 ⟨(some 26), none, false, .ext (.t 22) 1⟩,
 ⟨(some 7), none, false, .mov (.t 25)⟩,
 ⟨(some 8), none, false, .mov (.t 26)⟩])
 (.seq
 (.seq
 (.reg false [1, 6, 34] [⟨(some 27), none, false, .mov (.t 7)⟩,
 ⟨(some 28), none, false, .mov (.t 4)⟩,
 ⟨(some 29), none, false, .bin .neq (.t 27) (.t 28)⟩,
 ⟨(some 30), none, false, .mov (.t 29)⟩,
 ⟨(some 31), (some (30, false)), false, .mov (.t 8)⟩,
 ⟨(some 32), (some (30, false)), false, .mov (.t 5)⟩,
 ⟨(some 33), (some (30, false)), false, .bb .neq (.t 31) (.t 32)⟩,
 ⟨(some 34), none, false, .pick (.t 30) (.k (.d (.bool true))) (.t 33)⟩])
 (.cond (.t 34)
 (.seq
 (.reg false [2] [⟨(some 2), none, false, .mov (.k (.d (.bool false)))⟩])
 .ret)
 .skip))
 (.seq
 (.seq
 (.reg true [39] [⟨(some 35), none, false, .ldv 5 (.t 6)⟩,
 ⟨(some 36), none, false, .ldv 5 (.t 1)⟩,
 ⟨(some 37), none, false, .callP 22 [(.t 36)]⟩,
 ⟨(some 38), none, false, .callP 24 [(.t 35), (.t 37)]⟩,
 ⟨(some 39), none, false, .un .not (.t 38)⟩])
 (.cond (.t 39)
 (.seq
 (.reg false [2] [⟨(some 2), none, false, .mov (.k (.d (.bool false)))⟩])
 .ret)
 .skip))
 (.seq
 (.reg false [2] [⟨(some 2), none, false, .mov (.k (.d (.bool true)))⟩])
 .ret))))))))))
theorem c4 : (Go.Proofs.Tryd.f4).body.bind (comp prog.P (1, (Go.Proofs.Tryd.f4).ntmps) lv4) = some m4 := by kernel_rfl
theorem r4 : resOK prog.P (Go.Proofs.Tryd.f4).results.toList = true := by kernel_rfl

/-- laws.szOffice -/
def lv20 : List (Nat × List Nat) := [(0, [1, 2]), (1, [1, 2]), (2, [1, 2, 10]), (3, [4]), (4, [1]), (5, [1, 16]), (6, [4]), (7, [4])]
def m20 : MC :=
  (.seq
 (.reg false [1, 2] [⟨(some 2), none, true, .box (.t 0)⟩,
 ⟨(some 4), none, false, .mov (.k (.d (.int .i64 0)))⟩])
 (.seq
 (.reg false [1, 2] [⟨(some 5), none, false, .fa 1 1 (.t 2)⟩,
 ⟨(some 6), none, false, .ld none (.t 5)⟩,
 ⟨(some 7), none, false, .mov (.t 1)⟩,
 ⟨(some 8), none, true, .call 48 [(.t 6), (.t 7)]⟩,
 ⟨(some 1), none, false, .mov (.t 8)⟩])
 (.seq
 (.seq
 (.reg false [1, 2, 10] [⟨(some 9), none, false, .mov (.t 1)⟩,
 ⟨(some 10), none, false, .bin .lss (.t 9) (.k (.d (.int .i64 0)))⟩])
 (.cond (.t 10)
 (.seq
 (.reg false [4] [⟨(some 4), none, false, .mov (.k (.d (.int .i64 (-1))))⟩])
 .ret)
 .skip))
 (.seq
 (.reg false [1] [⟨(some 11), none, false, .fa 4 4 (.t 2)⟩,
 ⟨(some 12), none, false, .ld none (.t 11)⟩,
 ⟨(some 13), none, false, .mov (.t 1)⟩,
 ⟨(some 14), none, true, .call 49 [(.t 12), (.t 13)]⟩,
 ⟨(some 1), none, false, .mov (.t 14)⟩])
 (.seq
 (.seq
 (.reg false [1, 16] [⟨(some 15), none, false, .mov (.t 1)⟩,
 ⟨(some 16), none, false, .bin .lss (.t 15) (.k (.d (.int .i64 0)))⟩])
 (.cond (.t 16)
 (.seq
 (.reg false [4] [⟨(some 4), none, false, .mov (.k (.d (.int .i64 (-1))))⟩])
 .ret)
 .skip))
 (.seq
 (.reg false [4] [⟨(some 17), none, false, .mov (.t 1)⟩,
 ⟨(some 4), none, false, .mov (.t 17)⟩])
 .ret))))))
theorem c20 : (Go.Proofs.Tryd.f20).body.bind (comp prog.P (1, (Go.Proofs.Tryd.f20).ntmps) lv20) = some m20 := by kernel_rfl
theorem r20 : resOK prog.P (Go.Proofs.Tryd.f20).results.toList = true := by kernel_rfl

/-- spec.LedgerRoot -/
def lv21 : List (Nat × List Nat) := [(0, [1]), (1, [1, 12]), (2, [2, 3]), (3, [2, 3])]
def m21 : MC :=
  (.seq
 (.reg false [1] [⟨(some 1), none, true, .box (.t 0)⟩,
 ⟨(some 2), none, false, .mov (.k (.d (.int .i64 0)))⟩,
 ⟨(some 3), none, false, .mov (.k (.d (.bool false)))⟩])
 (.seq
 (.seq
 (.reg false [1, 12] [⟨(some 4), none, false, .ldv 5 (.t 1)⟩,
 ⟨(some 5), none, true, .call 50 [(.t 4)]⟩,
 ⟨(some 6), none, false, .un .not (.t 5)⟩,
 ⟨(some 7), none, false, .mov (.t 6)⟩,
 ⟨(some 8), (some (7, false)), false, .fa 4 4 (.t 1)⟩,
 ⟨(some 9), (some (7, false)), false, .ld none (.t 8)⟩,
 ⟨(some 10), (some (7, false)), false, .len false (.t 9)⟩,
 ⟨(some 11), (some (7, false)), false, .bin .eql (.t 10) (.k (.d (.int .i64 0)))⟩,
 ⟨(some 12), none, false, .pick (.t 7) (.k (.d (.bool true))) (.t 11)⟩])
 (.cond (.t 12)
 (.seq
 (.reg false [2, 3] [⟨(some 2), none, false, .mov (.k (.d (.int .i64 0)))⟩,
 ⟨(some 3), none, false, .mov (.k (.d (.bool false)))⟩])
 .ret)
 .skip))
 (.seq
 (.reg false [2, 3] [⟨(some 13), none, false, .fa 4 4 (.t 1)⟩,
 ⟨(some 14), none, false, .ld none (.t 13)⟩,
 ⟨(some 15), none, true, .call 51 [(.t 14)]⟩,
 ⟨(some 2), none, false, .mov (.t 15)⟩,
 ⟨(some 3), none, false, .mov (.k (.d (.bool true)))⟩])
 .ret)))
theorem c21 : (Go.Proofs.Tryd.f21).body.bind (comp prog.P (1, (Go.Proofs.Tryd.f21).ntmps) lv21) = some m21 := by kernel_rfl
theorem r21 : resOK prog.P (Go.Proofs.Tryd.f21).results.toList = true := by kernel_rfl

/-- laws.toOffice -/
def lv22 : List (Nat × List Nat) := [(0, [1, 2]), (1, [1, 2, 3]), (2, [1, 2, 3]), (3, [1, 2, 3]), (4, [1, 2, 3]), (5, [1, 2, 3]), (6, [2, 3]), (7, [2])]
def m22 : MC :=
  (.seq
 (.reg false [1, 2] [⟨(some 1), none, true, .box (.t 0)⟩,
 ⟨(some 2), none, true, .alloc (.st (.cons (.int .i64 0) (.cons (.sl true 4 .nil) (.cons (.int .i64 0) (.cons (.int .i64 0) (.cons (.sl true 1 .nil) .nil))))))⟩])
 (.seq
 (.reg false [1, 2, 3] [⟨(some 3), none, true, .alloc (.st (.cons (.int .i64 0) (.cons (.sl true 4 .nil) (.cons (.int .i64 0) (.cons (.int .i64 0) (.cons (.sl true 1 .nil) .nil))))))⟩])
 (.seq
 (.reg false [1, 2, 3] [⟨(some 4), none, false, .fa 0 0 (.t 1)⟩,
 ⟨(some 5), none, false, .ld none (.t 4)⟩,
 ⟨(some 6), none, false, .fa 0 0 (.t 3)⟩,
 ⟨none, none, true, .st 1 (.t 6) (.t 5)⟩])
 (.seq
 (.reg false [1, 2, 3] [⟨(some 7), none, false, .fa 1 1 (.t 1)⟩,
 ⟨(some 8), none, false, .ld none (.t 7)⟩,
 ⟨(some 9), none, true, .call 52 [(.t 8)]⟩,
 ⟨(some 10), none, false, .fa 1 1 (.t 3)⟩,
 ⟨none, none, true, .st 1 (.t 10) (.t 9)⟩])
 (.seq
 (.reg false [1, 2, 3] [⟨(some 11), none, false, .fa 2 2 (.t 1)⟩,
 ⟨(some 12), none, false, .ld none (.t 11)⟩,
 ⟨(some 13), none, false, .fa 2 2 (.t 3)⟩,
 ⟨none, none, true, .st 1 (.t 13) (.t 12)⟩])
 (.seq
 (.reg false [1, 2, 3] [⟨(some 14), none, false, .fa 3 3 (.t 1)⟩,
 ⟨(some 15), none, false, .ld none (.t 14)⟩,
 ⟨(some 16), none, false, .fa 3 3 (.t 3)⟩,
 ⟨none, none, true, .st 1 (.t 16) (.t 15)⟩])
 (.seq
 (.reg false [2, 3] [⟨(some 17), none, false, .fa 4 4 (.t 1)⟩,
 ⟨(some 18), none, false, .ld none (.t 17)⟩,
 ⟨(some 19), none, true, .call 53 [(.t 18)]⟩,
 ⟨(some 20), none, false, .fa 4 4 (.t 3)⟩,
 ⟨none, none, true, .st 1 (.t 20) (.t 19)⟩])
 (.seq
 (.reg false [2] [⟨(some 21), none, false, .ldv 5 (.t 3)⟩,
 ⟨none, none, true, .st 5 (.t 2) (.t 21)⟩])
 .ret))))))))
theorem c22 : (Go.Proofs.Tryd.f22).body.bind (comp prog.P (1, (Go.Proofs.Tryd.f22).ntmps) lv22) = some m22 := by kernel_rfl
theorem r22 : resOK prog.P (Go.Proofs.Tryd.f22).results.toList = true := by kernel_rfl

/-- impl.LedgerRoot -/
def lv23 : List (Nat × List Nat) := [(0, [1]), (1, [1, 6]), (2, [2, 3]), (3, [2, 3])]
def m23 : MC :=
  (.seq
 (.reg false [1] [⟨(some 1), none, true, .box (.t 0)⟩,
 ⟨(some 2), none, false, .mov (.k (.d (.int .i64 0)))⟩,
 ⟨(some 3), none, false, .mov (.k (.d (.bool false)))⟩])
 (.seq
 (.seq
 (.reg false [1, 6] [⟨(some 4), none, false, .ldv 5 (.t 1)⟩,
 ⟨(some 5), none, true, .call 54 [(.t 4)]⟩,
 ⟨(some 6), none, false, .un .not (.t 5)⟩])
 (.cond (.t 6)
 (.seq
 (.reg false [2, 3] [⟨(some 2), none, false, .mov (.k (.d (.int .i64 0)))⟩,
 ⟨(some 3), none, false, .mov (.k (.d (.bool false)))⟩])
 .ret)
 .skip))
 (.seq
 (.reg false [2, 3] [⟨(some 7), none, false, .fa 4 4 (.t 1)⟩,
 ⟨(some 8), none, false, .ld none (.t 7)⟩,
 ⟨(some 9), none, true, .call 55 [(.t 8)]⟩,
 ⟨(some 10), none, false, .ext (.t 9) 0⟩,
 ⟨(some 11), none, false, .ext (.t 9) 1⟩,
 ⟨(some 2), none, false, .mov (.t 10)⟩,
 ⟨(some 3), none, false, .mov (.t 11)⟩])
 .ret)))
theorem c23 : (Go.Proofs.Tryd.f23).body.bind (comp prog.P (1, (Go.Proofs.Tryd.f23).ntmps) lv23) = some m23 := by kernel_rfl
theorem r23 : resOK prog.P (Go.Proofs.Tryd.f23).results.toList = true := by kernel_rfl

/-- laws.eqOffice -/
def lv24 : List (Nat × List Nat) := [(0, [2, 3]), (1, [2, 3, 9]), (2, [4]), (3, [2, 3, 15]), (4, [4]), (5, [2, 3, 20]), (6, [4]), (7, [2, 3, 25]), (8, [4]), (9, [31]), (10, [4]), (11, [4])]
def m24 : MC :=
  (.seq
 (.reg false [2, 3] [⟨(some 2), none, true, .box (.t 0)⟩,
 ⟨(some 3), none, true, .box (.t 1)⟩,
 ⟨(some 4), none, false, .mov (.k (.d (.bool false)))⟩])
 (.seq
 (.seq
 (.reg false [2, 3, 9] [⟨(some 5), none, false, .fa 0 0 (.t 2)⟩,
 ⟨(some 6), none, false, .ld none (.t 5)⟩,
 ⟨(some 7), none, false, .fa 0 0 (.t 3)⟩,
 ⟨(some 8), none, false, .ld none (.t 7)⟩,
 ⟨(some 9), none, false, .bin .neq (.t 6) (.t 8)⟩])
 (.cond (.t 9)
 (.seq
 (.reg false [4] [⟨(some 4), none, false, .mov (.k (.d (.bool false)))⟩])
 .ret)
 .skip))
 (.seq
 (.seq
 (.reg false [2, 3, 15] [⟨(some 10), none, false, .fa 1 1 (.t 2)⟩,
 ⟨(some 11), none, false, .ld none (.t 10)⟩,
 ⟨(some 12), none, false, .fa 1 1 (.t 3)⟩,
 ⟨(some 13), none, false, .ld none (.t 12)⟩,
 ⟨(some 14), none, true, .call 56 [(.t 11), (.t 13)]⟩,
 ⟨(some 15), none, false, .un .not (.t 14)⟩])
 (.cond (.t 15)
 (.seq
 (.reg false [4] [⟨(some 4), none, false, .mov (.k (.d (.bool false)))⟩])
 .ret)
 .skip))
 (.seq
 (.seq
 (.reg false [2, 3, 20] [⟨(some 16), none, false, .fa 2 2 (.t 2)⟩,
 ⟨(some 17), none, false, .ld none (.t 16)⟩,
 ⟨(some 18), none, false, .fa 2 2 (.t 3)⟩,
 ⟨(some 19), none, false, .ld none (.t 18)⟩,
 ⟨(some 20), none, false, .bin .neq (.t 17) (.t 19)⟩])
 (.cond (.t 20)
 (.seq
 (.reg false [4] [⟨(some 4), none, false, .mov (.k (.d (.bool false)))⟩])
 .ret)
 .skip))
 (.seq
 (.seq
 (.reg false [2, 3, 25] [⟨(some 21), none, false, .fa 3 3 (.t 2)⟩,
 ⟨(some 22), none, false, .ld none (.t 21)⟩,
 ⟨(some 23), none, false, .fa 3 3 (.t 3)⟩,
 ⟨(some 24), none, false, .ld none (.t 23)⟩,
 ⟨(some 25), none, false, .bin .neq (.t 22) (.t 24)⟩])
 (.cond (.t 25)
 (.seq
 (.reg false [4] [⟨(some 4), none, false, .mov (.k (.d (.bool false)))⟩])
 .ret)
 .skip))
 (.seq
 (.seq
 (.reg false [31] [⟨(some 26), none, false, .fa 4 4 (.t 2)⟩,
 ⟨(some 27), none, false, .ld none (.t 26)⟩,
 ⟨(some 28), none, false, .fa 4 4 (.t 3)⟩,
 ⟨(some 29), none, false, .ld none (.t 28)⟩,
 ⟨(some 30), none, true, .call 57 [(.t 27), (.t 29)]⟩,
 ⟨(some 31), none, false, .un .not (.t 30)⟩])
 (.cond (.t 31)
 (.seq
 (.reg false [4] [⟨(some 4), none, false, .mov (.k (.d (.bool false)))⟩])
 .ret)
 .skip))
 (.seq
 (.reg false [4] [⟨(some 4), none, false, .mov (.k (.d (.bool true)))⟩])
 .ret)))))))
theorem c24 : (Go.Proofs.Tryd.f24).body.bind (comp prog.P (2, (Go.Proofs.Tryd.f24).ntmps) lv24) = some m24 := by kernel_rfl
theorem r24 : resOK prog.P (Go.Proofs.Tryd.f24).results.toList = true := by kernel_rfl

/-- impl.within -/
def lv33 : List (Nat × List Nat) := [(0, [0, 1, 2]), (1, [6])]
def m33 : MC :=
  (.seq
 (.reg false [0, 1, 2] [⟨(some 6), none, false, .mov (.k (.d (.bool false)))⟩])
 (.seq
 (.reg false [6] [⟨(some 7), none, false, .mov (.t 1)⟩,
 ⟨(some 8), none, false, .mov (.t 0)⟩,
 ⟨(some 9), none, false, .bin .leq (.t 7) (.t 8)⟩,
 ⟨(some 10), none, false, .mov (.t 9)⟩,
 ⟨(some 11), (some (10, true)), false, .mov (.t 0)⟩,
 ⟨(some 12), (some (10, true)), false, .mov (.t 2)⟩,
 ⟨(some 13), (some (10, true)), false, .bin .leq (.t 11) (.t 12)⟩,
 ⟨(some 14), none, false, .pick (.t 10) (.t 13) (.k (.d (.bool false)))⟩,
 ⟨(some 6), none, false, .mov (.t 14)⟩])
 .ret))
theorem c33 : (Go.Proofs.Tryd.f33).body.bind (comp prog.P (3, (Go.Proofs.Tryd.f33).ntmps) lv33) = some m33 := by kernel_rfl
theorem r33 : resOK prog.P (Go.Proofs.Tryd.f33).results.toList = true := by kernel_rfl

/-- impl.decimal -/
def lv46 : List (Nat × List Nat) := [(0, [0]), (1, [2])]
def m46 : MC :=
  (.seq
 (.reg false [0] [⟨(some 2), none, false, .mov (.k (.d (.str [])))⟩])
 (.seq
 (.reg false [2] [⟨(some 3), none, false, .mov (.t 0)⟩,
 ⟨(some 4), none, true, .call 66 [(.t 3)]⟩,
 ⟨(some 2), none, false, .mov (.t 4)⟩])
 .ret))
theorem c46 : (Go.Proofs.Tryd.f46).body.bind (comp prog.P (1, (Go.Proofs.Tryd.f46).ntmps) lv46) = some m46 := by kernel_rfl
theorem r46 : resOK prog.P (Go.Proofs.Tryd.f46).results.toList = true := by kernel_rfl

/-- spec.l1Num -/
def lv47 : List (Nat × List Nat) := [(0, [0]), (1, [0, 4]), (2, [2]), (3, [0, 10]), (4, [2]), (5, [2])]
def m47 : MC :=
  (.seq
 (.reg false [0] [⟨(some 2), none, false, .mov (.k (.d (.str [])))⟩])
 (.seq
 (.seq
 (.reg false [0, 4] [⟨(some 3), none, false, .mov (.t 0)⟩,
 ⟨(some 4), none, false, .bin .lss (.t 3) (.k (.d (.int .i64 0)))⟩])
 (.cond (.t 4)
 (.seq
 (.reg false [2] [⟨(some 5), none, false, .mov (.t 0)⟩,
 ⟨(some 6), none, false, .un .neg (.t 5)⟩,
 ⟨(some 7), none, true, .call 47 [(.t 6)]⟩,
 ⟨(some 8), none, false, .bin .add (.k (.d (.str [45]))) (.t 7)⟩,
 ⟨(some 2), none, false, .mov (.t 8)⟩])
 .ret)
 .skip))
 (.seq
 (.seq
 (.reg false [0, 10] [⟨(some 9), none, false, .mov (.t 0)⟩,
 ⟨(some 10), none, false, .bin .lss (.t 9) (.k (.d (.int .i64 10)))⟩])
 (.cond (.t 10)
 (.seq
 (.reg false [2] [⟨(some 11), none, false, .mov (.t 0)⟩,
 ⟨(some 12), none, false, .mov (.t 0)⟩,
 ⟨(some 13), none, false, .bin .add (.t 12) (.k (.d (.int .i64 1)))⟩,
 ⟨(some 14), none, false, .sls (.k (.d (.str [48, 49, 50, 51, 52, 53, 54, 55, 56, 57]))) (some (.t 11)) (some (.t 13))⟩,
 ⟨(some 2), none, false, .mov (.t 14)⟩])
 .ret)
 .skip))
 (.seq
 (.reg true [2] [⟨(some 15), none, false, .mov (.t 0)⟩,
 ⟨(some 16), none, false, .bin .quo (.t 15) (.k (.d (.int .i64 10)))⟩,
 ⟨(some 17), none, false, .callP 47 [(.t 16)]⟩,
 ⟨(some 18), none, false, .mov (.t 0)⟩,
 ⟨(some 19), none, false, .bin .rem (.t 18) (.k (.d (.int .i64 10)))⟩,
 ⟨(some 20), none, false, .mov (.t 0)⟩,
 ⟨(some 21), none, false, .bin .rem (.t 20) (.k (.d (.int .i64 10)))⟩,
 ⟨(some 22), none, false, .bin .add (.t 21) (.k (.d (.int .i64 1)))⟩,
 ⟨(some 23), none, false, .sls (.k (.d (.str [48, 49, 50, 51, 52, 53, 54, 55, 56, 57]))) (some (.t 19)) (some (.t 22))⟩,
 ⟨(some 24), none, false, .bin .add (.t 17) (.t 23)⟩,
 ⟨(some 2), none, false, .mov (.t 24)⟩])
 .ret))))
theorem c47 : (Go.Proofs.Tryd.f47).body.bind (comp prog.P (1, (Go.Proofs.Tryd.f47).ntmps) lv47) = some m47 := by kernel_rfl
theorem r47 : resOK prog.P (Go.Proofs.Tryd.f47).results.toList = true := by kernel_rfl

/-- laws.szCaseS -/
def lv48 : List (Nat × List Nat) := [(0, [0, 1]), (1, [0, 1]), (2, [0, 1, 11]), (3, [4]), (4, [0, 1, 5]), (5, [0, 1, 5, 15]), (6, [0, 1, 5]), (7, [0, 1, 5]), (8, [0, 1, 5, 25]), (9, [4]), (10, [4])]
def m48 : MC :=
  (.seq
 (.reg false [0, 1] [⟨(some 4), none, false, .mov (.k (.d (.int .i64 0)))⟩])
 (.seq
 (.reg false [0, 1] [⟨(some 6), none, false, .mov (.t 1)⟩,
 ⟨(some 7), none, false, .mov (.t 0)⟩,
 ⟨(some 8), none, false, .len false (.t 7)⟩,
 ⟨(some 9), none, false, .bin .sub (.t 6) (.t 8)⟩,
 ⟨(some 1), none, false, .mov (.t 9)⟩])
 (.seq
 (.seq
 (.reg false [0, 1, 11] [⟨(some 10), none, false, .mov (.t 1)⟩,
 ⟨(some 11), none, false, .bin .lss (.t 10) (.k (.d (.int .i64 0)))⟩])
 (.cond (.t 11)
 (.seq
 (.reg false [4] [⟨(some 4), none, false, .mov (.k (.d (.int .i64 (-1))))⟩])
 .ret)
 .skip))
 (.seq
 (.seq
 (.reg false [0, 1, 5] [⟨(some 5), none, false, .mov (.k (.d (.int .i64 0)))⟩])
 (.block 0
 (.loop
 (.seq
 (.seq
 (.reg false [0, 1, 5, 15] [⟨(some 12), none, false, .mov (.t 5)⟩,
 ⟨(some 13), none, false, .mov (.t 0)⟩,
 ⟨(some 14), none, false, .len false (.t 13)⟩,
 ⟨(some 15), none, false, .bin .lss (.t 12) (.t 14)⟩])
 (.cond (.t 15)
 .skip
 (.exit 0)))
 (.seq
 (.block 1
 (.seq
 (.reg false [0, 1, 5] [⟨(some 18), none, false, .mov (.t 0)⟩,
 ⟨(some 19), none, false, .mov (.t 5)⟩,
 ⟨(some 20), none, false, .ia 4 (.t 18) (.t 19)⟩,
 ⟨(some 21), none, false, .ld (some 4) (.t 20)⟩,
 ⟨(some 22), none, false, .mov (.t 1)⟩,
 ⟨(some 23), none, true, .call 67 [(.t 21), (.t 22)]⟩,
 ⟨(some 1), none, false, .mov (.t 23)⟩])
 (.seq
 (.reg false [0, 1, 5, 25] [⟨(some 24), none, false, .mov (.t 1)⟩,
 ⟨(some 25), none, false, .bin .lss (.t 24) (.k (.d (.int .i64 0)))⟩])
 (.cond (.t 25)
 (.seq
 (.reg false [4] [⟨(some 4), none, false, .mov (.k (.d (.int .i64 (-1))))⟩])
 .ret)
 .skip))))
 (.reg false [0, 1, 5] [⟨(some 16), none, false, .mov (.t 5)⟩,
 ⟨(some 17), none, false, .bin .add (.t 16) (.k (.d (.int .i64 1)))⟩,
 ⟨(some 5), none, false, .mov (.t 17)⟩]))))))
 (.seq
 (.reg false [4] [⟨(some 26), none, false, .mov (.t 1)⟩,
 ⟨(some 4), none, false, .mov (.t 26)⟩])
 .ret)))))
theorem c48 : (Go.Proofs.Tryd.f48).body.bind (comp prog.P (1, (Go.Proofs.Tryd.f48).ntmps) lv48) = some m48 := by kernel_rfl
theorem r48 : resOK prog.P (Go.Proofs.Tryd.f48).results.toList = true := by kernel_rfl

/-- laws.szStringS -/
def lv49 : List (Nat × List Nat) := [(0, [0, 1]), (1, [0, 1]), (2, [0, 1, 11]), (3, [4]), (4, [0, 1, 5]), (5, [0, 1, 5, 15]), (6, [0, 1, 5]), (7, [0, 1, 5]), (8, [0, 1, 5, 26]), (9, [4]), (10, [4])]
def m49 : MC :=
  (.seq
 (.reg false [0, 1] [⟨(some 4), none, false, .mov (.k (.d (.int .i64 0)))⟩])
 (.seq
 (.reg false [0, 1] [⟨(some 6), none, false, .mov (.t 1)⟩,
 ⟨(some 7), none, false, .mov (.t 0)⟩,
 ⟨(some 8), none, false, .len false (.t 7)⟩,
 ⟨(some 9), none, false, .bin .sub (.t 6) (.t 8)⟩,
 ⟨(some 1), none, false, .mov (.t 9)⟩])
 (.seq
 (.seq
 (.reg false [0, 1, 11] [⟨(some 10), none, false, .mov (.t 1)⟩,
 ⟨(some 11), none, false, .bin .lss (.t 10) (.k (.d (.int .i64 0)))⟩])
 (.cond (.t 11)
 (.seq
 (.reg false [4] [⟨(some 4), none, false, .mov (.k (.d (.int .i64 (-1))))⟩])
 .ret)
 .skip))
 (.seq
 (.seq
 (.reg false [0, 1, 5] [⟨(some 5), none, false, .mov (.k (.d (.int .i64 0)))⟩])
 (.block 0
 (.loop
 (.seq
 (.seq
 (.reg false [0, 1, 5, 15] [⟨(some 12), none, false, .mov (.t 5)⟩,
 ⟨(some 13), none, false, .mov (.t 0)⟩,
 ⟨(some 14), none, false, .len false (.t 13)⟩,
 ⟨(some 15), none, false, .bin .lss (.t 12) (.t 14)⟩])
 (.cond (.t 15)
 .skip
 (.exit 0)))
 (.seq
 (.block 1
 (.seq
 (.reg false [0, 1, 5] [⟨(some 18), none, false, .mov (.t 1)⟩,
 ⟨(some 19), none, false, .mov (.t 0)⟩,
 ⟨(some 20), none, false, .mov (.t 5)⟩,
 ⟨(some 21), none, false, .ia 1 (.t 19) (.t 20)⟩,
 ⟨(some 22), none, false, .ld none (.t 21)⟩,
 ⟨(some 23), none, false, .len true (.t 22)⟩,
 ⟨(some 24), none, false, .bin .sub (.t 18) (.t 23)⟩,
 ⟨(some 1), none, false, .mov (.t 24)⟩])
 (.seq
 (.reg false [0, 1, 5, 26] [⟨(some 25), none, false, .mov (.t 1)⟩,
 ⟨(some 26), none, false, .bin .lss (.t 25) (.k (.d (.int .i64 0)))⟩])
 (.cond (.t 26)
 (.seq
 (.reg false [4] [⟨(some 4), none, false, .mov (.k (.d (.int .i64 (-1))))⟩])
 .ret)
 .skip))))
 (.reg false [0, 1, 5] [⟨(some 16), none, false, .mov (.t 5)⟩,
 ⟨(some 17), none, false, .bin .add (.t 16) (.k (.d (.int .i64 1)))⟩,
 ⟨(some 5), none, false, .mov (.t 17)⟩]))))))
 (.seq
 (.reg false [4] [⟨(some 27), none, false, .mov (.t 1)⟩,
 ⟨(some 4), none, false, .mov (.t 27)⟩])
 .ret)))))
theorem c49 : (Go.Proofs.Tryd.f49).body.bind (comp prog.P (1, (Go.Proofs.Tryd.f49).ntmps) lv49) = some m49 := by kernel_rfl
theorem r49 : resOK prog.P (Go.Proofs.Tryd.f49).results.toList = true := by kernel_rfl

/-- spec.l25Good -/
def lv50 : List (Nat × List Nat) := [(0, [1]), (1, [1, 37]), (2, [2]), (3, [1, 3]), (4, [1, 3, 42]), (5, [1, 3]), (6, [1, 3, 71]), (7, [2]), (8, [2])]
def m50 : MC :=
  (.seq
 (.reg false [1] [⟨(some 1), none, true, .box (.t 0)⟩,
 ⟨(some 2), none, false, .mov (.k (.d (.bool false)))⟩])
 (.seq
 (.seq
 (.reg false [1, 37] [⟨(some 4), none, false, .fa 0 0 (.t 1)⟩,
 ⟨(some 5), none, false, .ld none (.t 4)⟩,
 ⟨(some 6), none, true, .call 68 [(.t 5)]⟩,
 ⟨(some 7), none, false, .un .not (.t 6)⟩,
 ⟨(some 8), none, false, .mov (.t 7)⟩,
 ⟨(some 9), (some (8, false)), false, .fa 1 1 (.t 1)⟩,
 ⟨(some 10), (some (8, false)), false, .ld none (.t 9)⟩,
 ⟨(some 11), (some (8, false)), false, .len false (.t 10)⟩,
 ⟨(some 12), (some (8, false)), false, .bin .gtr (.t 11) (.k (.d (.int .i64 6)))⟩,
 ⟨(some 13), none, false, .pick (.t 8) (.k (.d (.bool true))) (.t 12)⟩,
 ⟨(some 14), none, false, .mov (.t 13)⟩,
 ⟨(some 15), (some (14, false)), false, .fa 2 2 (.t 1)⟩,
 ⟨(some 16), (some (14, false)), false, .ld none (.t 15)⟩,
 ⟨(some 17), (some (14, false)), true, .call 61 [(.t 16), (.k (.d (.int .i64 0))), (.k (.d (.int .i64 999)))]⟩,
 ⟨(some 18), (some (14, false)), false, .un .not (.t 17)⟩,
 ⟨(some 19), none, false, .pick (.t 14) (.k (.d (.bool true))) (.t 18)⟩,
 ⟨(some 20), none, false, .mov (.t 19)⟩,
 ⟨(some 21), (some (20, false)), false, .fa 3 3 (.t 1)⟩,
 ⟨(some 22), (some (20, false)), false, .ld none (.t 21)⟩,
 ⟨(some 23), (some (20, false)), true, .call 61 [(.t 22), (.k (.d (.int .i64 0))), (.k (.d (.int .i64 999)))]⟩,
 ⟨(some 24), (some (20, false)), false, .un .not (.t 23)⟩,
 ⟨(some 25), none, false, .pick (.t 20) (.k (.d (.bool true))) (.t 24)⟩,
 ⟨(some 26), none, false, .mov (.t 25)⟩,
 ⟨(some 27), (some (26, false)), false, .fa 4 4 (.t 1)⟩,
 ⟨(some 28), (some (26, false)), false, .ld none (.t 27)⟩,
 ⟨(some 29), (some (26, false)), false, .len false (.t 28)⟩,
 ⟨(some 30), (some (26, false)), false, .bin .gtr (.t 29) (.k (.d (.int .i64 0)))⟩,
 ⟨(some 31), (some (26, false)), false, .mov (.t 30)⟩,
 ⟨(some 32), (some (31, true)), false, .fa 4 4 (.t 1)⟩,
 ⟨(some 33), (some (31, true)), false, .ld none (.t 32)⟩,
 ⟨(some 34), (some (31, true)), true, .call 69 [(.t 33)]⟩,
 ⟨(some 35), (some (31, true)), false, .un .not (.t 34)⟩,
 ⟨(some 36), (some (26, false)), false, .pick (.t 31) (.t 35) (.k (.d (.bool false)))⟩,
 ⟨(some 37), none, false, .pick (.t 26) (.k (.d (.bool true))) (.t 36)⟩])
 (.cond (.t 37)
 (.seq
 (.reg false [2] [⟨(some 2), none, false, .mov (.k (.d (.bool false)))⟩])
 .ret)
 .skip))
 (.seq
 (.seq
 (.reg false [1, 3] [⟨(some 3), none, false, .mov (.k (.d (.int .i64 0)))⟩])
 (.block 0
 (.loop
 (.seq
 (.seq
 (.reg false [1, 3, 42] [⟨(some 38), none, false, .mov (.t 3)⟩,
 ⟨(some 39), none, false, .fa 1 1 (.t 1)⟩,
 ⟨(some 40), none, false, .ld none (.t 39)⟩,
 ⟨(some 41), none, false, .len false (.t 40)⟩,
 ⟨(some 42), none, false, .bin .lss (.t 38) (.t 41)⟩])
 (.cond (.t 42)
 .skip
 (.exit 0)))
 (.seq
 (.block 1
 (.seq
 (.reg true [1, 3, 71] [⟨(some 45), none, false, .fa 1 1 (.t 1)⟩,
 ⟨(some 46), none, false, .ld none (.t 45)⟩,
 ⟨(some 47), none, false, .mov (.t 3)⟩,
 ⟨(some 48), none, false, .ia 4 (.t 46) (.t 47)⟩,
 ⟨(some 49), none, false, .ld (some 4) (.t 48)⟩,
 ⟨(some 50), none, false, .callP 70 [(.t 49)]⟩,
 ⟨(some 51), none, false, .un .not (.t 50)⟩,
 ⟨(some 52), none, false, .mov (.t 51)⟩,
 ⟨(some 53), (some (52, false)), false, .mov (.t 3)⟩,
 ⟨(some 54), (some (52, false)), false, .bin .gtr (.t 53) (.k (.d (.int .i64 0)))⟩,
 ⟨(some 55), (some (52, false)), false, .mov (.t 54)⟩,
 ⟨(some 56), (some (55, true)), false, .fa 1 1 (.t 1)⟩,
 ⟨(some 57), (some (55, true)), false, .ld none (.t 56)⟩,
 ⟨(some 58), (some (55, true)), false, .mov (.t 3)⟩,
 ⟨(some 59), (some (55, true)), false, .bin .sub (.t 58) (.k (.d (.int .i64 1)))⟩,
 ⟨(some 60), (some (55, true)), false, .ia 4 (.t 57) (.t 59)⟩,
 ⟨(some 61), (some (55, true)), false, .fa 0 0 (.t 60)⟩,
 ⟨(some 62), (some (55, true)), false, .ld none (.t 61)⟩,
 ⟨(some 63), (some (55, true)), false, .fa 1 1 (.t 1)⟩,
 ⟨(some 64), (some (55, true)), false, .ld none (.t 63)⟩,
 ⟨(some 65), (some (55, true)), false, .mov (.t 3)⟩,
 ⟨(some 66), (some (55, true)), false, .ia 4 (.t 64) (.t 65)⟩,
 ⟨(some 67), (some (55, true)), false, .fa 0 0 (.t 66)⟩,
 ⟨(some 68), (some (55, true)), false, .ld none (.t 67)⟩,
 ⟨(some 69), (some (55, true)), false, .bin .geq (.t 62) (.t 68)⟩,
 ⟨(some 70), (some (52, false)), false, .pick (.t 55) (.t 69) (.k (.d (.bool false)))⟩,
 ⟨(some 71), none, false, .pick (.t 52) (.k (.d (.bool true))) (.t 70)⟩])
 (.cond (.t 71)
 (.seq
 (.reg false [2] [⟨(some 2), none, false, .mov (.k (.d (.bool false)))⟩])
 .ret)
 .skip)))
 (.reg false [1, 3] [⟨(some 43), none, false, .mov (.t 3)⟩,
 ⟨(some 44), none, false, .bin .add (.t 43) (.k (.d (.int .i64 1)))⟩,
 ⟨(some 3), none, false, .mov (.t 44)⟩]))))))
 (.seq
 (.reg false [2] [⟨(some 2), none, false, .mov (.k (.d (.bool true)))⟩])
 .ret))))
theorem c50 : (Go.Proofs.Tryd.f50).body.bind (comp prog.P (1, (Go.Proofs.Tryd.f50).ntmps) lv50) = some m50 := by kernel_rfl
theorem r50 : resOK prog.P (Go.Proofs.Tryd.f50).results.toList = true := by kernel_rfl

/-- spec.l16Root -/
def lv51 : List (Nat × List Nat) := [(0, [0]), (1, [3]), (2, [3, 8]), (3, [3]), (4, [2])]
def m51 : MC :=
  (.seq
 (.reg false [0] [⟨(some 2), none, false, .mov (.k (.d (.int .i64 0)))⟩])
 (.seq
 (.reg false [3] [⟨(some 4), none, false, .mov (.t 0)⟩,
 ⟨(some 5), none, true, .call 71 [(.t 4)]⟩,
 ⟨(some 3), none, false, .mov (.t 5)⟩])
 (.seq
 (.block 0
 (.loop
 (.seq
 (.seq
 (.reg false [3, 8] [⟨(some 6), none, false, .mov (.t 3)⟩,
 ⟨(some 7), none, false, .len false (.t 6)⟩,
 ⟨(some 8), none, false, .bin .gtr (.t 7) (.k (.d (.int .i64 1)))⟩])
 (.cond (.t 8)
 .skip
 (.exit 0)))
 (.block 1
 (.reg false [3] [⟨(some 9), none, false, .mov (.t 3)⟩,
 ⟨(some 10), none, true, .call 72 [(.t 9)]⟩,
 ⟨(some 3), none, false, .mov (.t 10)⟩])))))
 (.seq
 (.reg false [2] [⟨(some 11), none, false, .mov (.t 3)⟩,
 ⟨(some 12), none, false, .ia 1 (.t 11) (.k (.d (.int .i64 0)))⟩,
 ⟨(some 13), none, false, .ld none (.t 12)⟩,
 ⟨(some 2), none, false, .mov (.t 13)⟩])
 .ret))))
theorem c51 : (Go.Proofs.Tryd.f51).body.bind (comp prog.P (1, (Go.Proofs.Tryd.f51).ntmps) lv51) = some m51 := by kernel_rfl
theorem r51 : resOK prog.P (Go.Proofs.Tryd.f51).results.toList = true := by kernel_rfl

/-- laws.toCaseS -/
def lv52 : List (Nat × List Nat) := [(0, [0]), (1, [0, 3]), (2, [0, 3, 4]), (3, [0, 3, 4, 11]), (4, [0, 3, 4]), (5, [0, 3, 4]), (6, [2])]
def m52 : MC :=
  (.seq
 (.reg false [0] [⟨(some 2), none, false, .mov (.k .nil)⟩])
 (.seq
 (.reg false [0, 3] [⟨(some 5), none, false, .mov (.t 0)⟩,
 ⟨(some 6), none, false, .len false (.t 5)⟩,
 ⟨(some 7), none, true, .mk 4 48 (.st (.cons (.int .i64 0) (.cons (.int .i64 0) (.cons (.int .i64 0) (.cons (.sl true 1 .nil) .nil))))) (.t 6)⟩,
 ⟨(some 3), none, false, .mov (.t 7)⟩])
 (.seq
 (.seq
 (.reg false [0, 3, 4] [⟨(some 4), none, false, .mov (.k (.d (.int .i64 0)))⟩])
 (.block 0
 (.loop
 (.seq
 (.seq
 (.reg false [0, 3, 4, 11] [⟨(some 8), none, false, .mov (.t 4)⟩,
 ⟨(some 9), none, false, .mov (.t 0)⟩,
 ⟨(some 10), none, false, .len false (.t 9)⟩,
 ⟨(some 11), none, false, .bin .lss (.t 8) (.t 10)⟩])
 (.cond (.t 11)
 .skip
 (.exit 0)))
 (.seq
 (.block 1
 (.reg false [0, 3, 4] [⟨(some 14), none, false, .mov (.t 3)⟩,
 ⟨(some 15), none, false, .mov (.t 4)⟩,
 ⟨(some 16), none, false, .mov (.t 0)⟩,
 ⟨(some 17), none, false, .mov (.t 4)⟩,
 ⟨(some 18), none, false, .ia 4 (.t 16) (.t 17)⟩,
 ⟨(some 19), none, false, .ld (some 4) (.t 18)⟩,
 ⟨(some 20), none, true, .call 73 [(.t 19)]⟩,
 ⟨(some 21), none, false, .ia 4 (.t 14) (.t 15)⟩,
 ⟨none, none, true, .st 4 (.t 21) (.t 20)⟩]))
 (.reg false [0, 3, 4] [⟨(some 12), none, false, .mov (.t 4)⟩,
 ⟨(some 13), none, false, .bin .add (.t 12) (.k (.d (.int .i64 1)))⟩,
 ⟨(some 4), none, false, .mov (.t 13)⟩]))))))
 (.seq
 (.reg false [2] [⟨(some 22), none, false, .mov (.t 3)⟩,
 ⟨(some 2), none, false, .mov (.t 22)⟩])
 .ret))))
theorem c52 : (Go.Proofs.Tryd.f52).body.bind (comp prog.P (1, (Go.Proofs.Tryd.f52).ntmps) lv52) = some m52 := by kernel_rfl
theorem r52 : resOK prog.P (Go.Proofs.Tryd.f52).results.toList = true := by kernel_rfl

/-- laws.toStringS -/
def lv53 : List (Nat × List Nat) := [(0, [0]), (1, [0, 3]), (2, [0, 3, 4]), (3, [0, 3, 4, 11]), (4, [0, 3, 4]), (5, [0, 3, 4]), (6, [2])]
def m53 : MC :=
  (.seq
 (.reg false [0] [⟨(some 2), none, false, .mov (.k .nil)⟩])
 (.seq
 (.reg false [0, 3] [⟨(some 5), none, false, .mov (.t 0)⟩,
 ⟨(some 6), none, false, .len false (.t 5)⟩,
 ⟨(some 7), none, true, .mk 1 16 (.str []) (.t 6)⟩,
 ⟨(some 3), none, false, .mov (.t 7)⟩])
 (.seq
 (.seq
 (.reg false [0, 3, 4] [⟨(some 4), none, false, .mov (.k (.d (.int .i64 0)))⟩])
 (.block 0
 (.loop
 (.seq
 (.seq
 (.reg false [0, 3, 4, 11] [⟨(some 8), none, false, .mov (.t 4)⟩,
 ⟨(some 9), none, false, .mov (.t 0)⟩,
 ⟨(some 10), none, false, .len false (.t 9)⟩,
 ⟨(some 11), none, false, .bin .lss (.t 8) (.t 10)⟩])
 (.cond (.t 11)
 .skip
 (.exit 0)))
 (.seq
 (.block 1
 (.reg false [0, 3, 4] [⟨(some 14), none, false, .mov (.t 3)⟩,
 ⟨(some 15), none, false, .mov (.t 4)⟩,
 ⟨(some 16), none, false, .mov (.t 0)⟩,
 ⟨(some 17), none, false, .mov (.t 4)⟩,
 ⟨(some 18), none, false, .ia 1 (.t 16) (.t 17)⟩,
 ⟨(some 19), none, false, .ld none (.t 18)⟩,
 ⟨(some 20), none, false, .ia 1 (.t 14) (.t 15)⟩,
 ⟨none, none, true, .st 1 (.t 20) (.t 19)⟩]))
 (.reg false [0, 3, 4] [⟨(some 12), none, false, .mov (.t 4)⟩,
 ⟨(some 13), none, false, .bin .add (.t 12) (.k (.d (.int .i64 1)))⟩,
 ⟨(some 4), none, false, .mov (.t 13)⟩]))))))
 (.seq
 (.reg false [2] [⟨(some 21), none, false, .mov (.t 3)⟩,
 ⟨(some 2), none, false, .mov (.t 21)⟩])
 .ret))))
theorem c53 : (Go.Proofs.Tryd.f53).body.bind (comp prog.P (1, (Go.Proofs.Tryd.f53).ntmps) lv53) = some m53 := by kernel_rfl
theorem r53 : resOK prog.P (Go.Proofs.Tryd.f53).results.toList = true := by kernel_rfl

/-- impl.IsOffice -/
def lv54 : List (Nat × List Nat) := [(0, [1]), (1, [1, 38]), (2, [2]), (3, [1, 40, 41, 42]), (4, [1, 40, 41, 42, 43]), (5, [1, 3, 4, 40, 41, 42]), (6, [1, 40, 41, 42, 65]), (7, [2]), (8, [1, 40, 41, 42]), (9, [2])]
def m54 : MC :=
  (.seq
 (.reg false [1] [⟨(some 1), none, true, .box (.t 0)⟩,
 ⟨(some 2), none, false, .mov (.k (.d (.bool false)))⟩])
 (.seq
 (.seq
 (.reg false [1, 38] [⟨(some 5), none, false, .fa 0 0 (.t 1)⟩,
 ⟨(some 6), none, false, .ld none (.t 5)⟩,
 ⟨(some 7), none, true, .call 74 [(.t 6)]⟩,
 ⟨(some 8), none, false, .un .not (.t 7)⟩,
 ⟨(some 9), none, false, .mov (.t 8)⟩,
 ⟨(some 10), (some (9, false)), false, .fa 1 1 (.t 1)⟩,
 ⟨(some 11), (some (9, false)), false, .ld none (.t 10)⟩,
 ⟨(some 12), (some (9, false)), false, .len false (.t 11)⟩,
 ⟨(some 13), (some (9, false)), false, .bin .gtr (.t 12) (.k (.d (.int .i64 6)))⟩,
 ⟨(some 14), none, false, .pick (.t 9) (.k (.d (.bool true))) (.t 13)⟩,
 ⟨(some 15), none, false, .mov (.t 14)⟩,
 ⟨(some 16), (some (15, false)), false, .fa 2 2 (.t 1)⟩,
 ⟨(some 17), (some (15, false)), false, .ld none (.t 16)⟩,
 ⟨(some 18), (some (15, false)), true, .call 33 [(.t 17), (.k (.d (.int .i64 0))), (.k (.d (.int .i64 999)))]⟩,
 ⟨(some 19), (some (15, false)), false, .un .not (.t 18)⟩,
 ⟨(some 20), none, false, .pick (.t 15) (.k (.d (.bool true))) (.t 19)⟩,
 ⟨(some 21), none, false, .mov (.t 20)⟩,
 ⟨(some 22), (some (21, false)), false, .fa 3 3 (.t 1)⟩,
 ⟨(some 23), (some (21, false)), false, .ld none (.t 22)⟩,
 ⟨(some 24), (some (21, false)), true, .call 33 [(.t 23), (.k (.d (.int .i64 0))), (.k (.d (.int .i64 999)))]⟩,
 ⟨(some 25), (some (21, false)), false, .un .not (.t 24)⟩,
 ⟨(some 26), none, false, .pick (.t 21) (.k (.d (.bool true))) (.t 25)⟩,
 ⟨(some 27), none, false, .mov (.t 26)⟩,
 ⟨(some 28), (some (27, false)), false, .fa 4 4 (.t 1)⟩,
 ⟨(some 29), (some (27, false)), false, .ld none (.t 28)⟩,
 ⟨(some 30), (some (27, false)), false, .len false (.t 29)⟩,
 ⟨(some 31), (some (27, false)), false, .bin .gtr (.t 30) (.k (.d (.int .i64 0)))⟩,
 ⟨(some 32), (some (27, false)), false, .mov (.t 31)⟩,
 ⟨(some 33), (some (32, true)), false, .fa 4 4 (.t 1)⟩,
 ⟨(some 34), (some (32, true)), false, .ld none (.t 33)⟩,
 ⟨(some 35), (some (32, true)), true, .call 75 [(.t 34)]⟩,
 ⟨(some 36), (some (32, true)), false, .un .not (.t 35)⟩,
 ⟨(some 37), (some (27, false)), false, .pick (.t 32) (.t 36) (.k (.d (.bool false)))⟩,
 ⟨(some 38), none, false, .pick (.t 27) (.k (.d (.bool true))) (.t 37)⟩])
 (.cond (.t 38)
 (.seq
 (.reg false [2] [⟨(some 2), none, false, .mov (.k (.d (.bool false)))⟩])
 .ret)
 .skip))
 (.seq
 (.seq
 (.reg false [1, 40, 41, 42] [⟨(some 39), none, false, .fa 1 1 (.t 1)⟩,
 ⟨(some 40), none, false, .ld none (.t 39)⟩,
 ⟨(some 41), none, false, .len false (.t 40)⟩,
 ⟨(some 42), none, false, .mov (.k (.d (.int .i64 0)))⟩])
 (.block 0
 (.loop
 (.seq
 (.reg false [1, 40, 41, 42, 43] [⟨(some 43), none, false, .bin .lss (.t 42) (.t 41)⟩])
 (.seq
 (.cond (.t 43)
 .skip
 (.exit 0))
 (.seq
 (.block 1
 (.seq
 (.reg false [1, 3, 4, 40, 41, 42] [⟨(some 44), none, false, .mov (.t 42)⟩,
 ⟨(some 45), none, false, .ia 4 (.t 40) (.t 42)⟩,
 ⟨(some 46), none, false, .ld (some 4) (.t 45)⟩,
 ⟨(some 4), none, true, .alloc (.st (.cons (.int .i64 0) (.cons (.int .i64 0) (.cons (.int .i64 0) (.cons (.sl true 1 .nil) .nil)))))⟩,
 ⟨(some 3), none, false, .mov (.t 44)⟩,
 ⟨none, none, true, .st 4 (.t 4) (.t 46)⟩])
 (.seq
 (.reg true [1, 40, 41, 42, 65] [⟨(some 47), none, false, .ld (some 4) (.t 4)⟩,
 ⟨(some 48), none, false, .callP 76 [(.t 47)]⟩,
 ⟨(some 49), none, false, .un .not (.t 48)⟩,
 ⟨(some 50), none, false, .mov (.t 49)⟩,
 ⟨(some 51), (some (50, false)), false, .mov (.t 3)⟩,
 ⟨(some 52), (some (50, false)), false, .bin .gtr (.t 51) (.k (.d (.int .i64 0)))⟩,
 ⟨(some 53), (some (50, false)), false, .mov (.t 52)⟩,
 ⟨(some 54), (some (53, true)), false, .fa 1 1 (.t 1)⟩,
 ⟨(some 55), (some (53, true)), false, .ld none (.t 54)⟩,
 ⟨(some 56), (some (53, true)), false, .mov (.t 3)⟩,
 ⟨(some 57), (some (53, true)), false, .bin .sub (.t 56) (.k (.d (.int .i64 1)))⟩,
 ⟨(some 58), (some (53, true)), false, .ia 4 (.t 55) (.t 57)⟩,
 ⟨(some 59), (some (53, true)), false, .fa 0 0 (.t 58)⟩,
 ⟨(some 60), (some (53, true)), false, .ld none (.t 59)⟩,
 ⟨(some 61), (some (53, true)), false, .fa 0 0 (.t 4)⟩,
 ⟨(some 62), (some (53, true)), false, .ld none (.t 61)⟩,
 ⟨(some 63), (some (53, true)), false, .bin .geq (.t 60) (.t 62)⟩,
 ⟨(some 64), (some (50, false)), false, .pick (.t 53) (.t 63) (.k (.d (.bool false)))⟩,
 ⟨(some 65), none, false, .pick (.t 50) (.k (.d (.bool true))) (.t 64)⟩])
 (.cond (.t 65)
 (.seq
 (.reg false [2] [⟨(some 2), none, false, .mov (.k (.d (.bool false)))⟩])
 .ret)
 .skip))))
 (.reg false [1, 40, 41, 42] [⟨(some 66), none, false, .bin .add (.t 42) (.k (.d (.int .i64 1)))⟩,
 ⟨(some 42), none, false, .mov (.t 66)⟩])))))))
 (.seq
 (.reg false [2] [⟨(some 2), none, false, .mov (.k (.d (.bool true)))⟩])
 .ret))))
theorem c54 : (Go.Proofs.Tryd.f54).body.bind (comp prog.P (1, (Go.Proofs.Tryd.f54).ntmps) lv54) = some m54 := by kernel_rfl
theorem r54 : resOK prog.P (Go.Proofs.Tryd.f54).results.toList = true := by kernel_rfl

/-- impl.RootOf -/
def lv55 : List (Nat × List Nat) := [(0, [0]), (1, [0, 7]), (2, [2, 3]), (3, [4]), (4, [4, 12]), (5, [4]), (6, [2, 3])]
def m55 : MC :=
  (.seq
 (.reg false [0] [⟨(some 2), none, false, .mov (.k (.d (.int .i64 0)))⟩,
 ⟨(some 3), none, false, .mov (.k (.d (.bool false)))⟩])
 (.seq
 (.seq
 (.reg false [0, 7] [⟨(some 5), none, false, .mov (.t 0)⟩,
 ⟨(some 6), none, true, .call 75 [(.t 5)]⟩,
 ⟨(some 7), none, false, .un .not (.t 6)⟩])
 (.cond (.t 7)
 (.seq
 (.reg false [2, 3] [⟨(some 2), none, false, .mov (.k (.d (.int .i64 0)))⟩,
 ⟨(some 3), none, false, .mov (.k (.d (.bool false)))⟩])
 .ret)
 .skip))
 (.seq
 (.reg false [4] [⟨(some 8), none, false, .mov (.t 0)⟩,
 ⟨(some 9), none, true, .call 77 [(.t 8)]⟩,
 ⟨(some 4), none, false, .mov (.t 9)⟩])
 (.seq
 (.block 0
 (.loop
 (.seq
 (.seq
 (.reg false [4, 12] [⟨(some 10), none, false, .mov (.t 4)⟩,
 ⟨(some 11), none, false, .len false (.t 10)⟩,
 ⟨(some 12), none, false, .bin .gtr (.t 11) (.k (.d (.int .i64 1)))⟩])
 (.cond (.t 12)
 .skip
 (.exit 0)))
 (.block 1
 (.reg false [4] [⟨(some 13), none, false, .mov (.t 4)⟩,
 ⟨(some 14), none, true, .call 78 [(.t 13)]⟩,
 ⟨(some 4), none, false, .mov (.t 14)⟩])))))
 (.seq
 (.reg false [2, 3] [⟨(some 15), none, false, .mov (.t 4)⟩,
 ⟨(some 16), none, false, .ia 1 (.t 15) (.k (.d (.int .i64 0)))⟩,
 ⟨(some 17), none, false, .ld none (.t 16)⟩,
 ⟨(some 2), none, false, .mov (.t 17)⟩,
 ⟨(some 3), none, false, .mov (.k (.d (.bool true)))⟩])
 .ret)))))
theorem c55 : (Go.Proofs.Tryd.f55).body.bind (comp prog.P (1, (Go.Proofs.Tryd.f55).ntmps) lv55) = some m55 := by kernel_rfl
theorem r55 : resOK prog.P (Go.Proofs.Tryd.f55).results.toList = true := by kernel_rfl

/-- laws.eqCaseS -/
def lv56 : List (Nat × List Nat) := [(0, [0, 1]), (1, [0, 1, 10]), (2, [4]), (3, [0, 1, 5]), (4, [0, 1, 5, 14]), (5, [0, 1, 5]), (6, [0, 1, 5, 26]), (7, [4]), (8, [4])]
def m56 : MC :=
  (.seq
 (.reg false [0, 1] [⟨(some 4), none, false, .mov (.k (.d (.bool false)))⟩])
 (.seq
 (.seq
 (.reg false [0, 1, 10] [⟨(some 6), none, false, .mov (.t 0)⟩,
 ⟨(some 7), none, false, .len false (.t 6)⟩,
 ⟨(some 8), none, false, .mov (.t 1)⟩,
 ⟨(some 9), none, false, .len false (.t 8)⟩,
 ⟨(some 10), none, false, .bin .neq (.t 7) (.t 9)⟩])
 (.cond (.t 10)
 (.seq
 (.reg false [4] [⟨(some 4), none, false, .mov (.k (.d (.bool false)))⟩])
 .ret)
 .skip))
 (.seq
 (.seq
 (.reg false [0, 1, 5] [⟨(some 5), none, false, .mov (.k (.d (.int .i64 0)))⟩])
 (.block 0
 (.loop
 (.seq
 (.seq
 (.reg false [0, 1, 5, 14] [⟨(some 11), none, false, .mov (.t 5)⟩,
 ⟨(some 12), none, false, .mov (.t 0)⟩,
 ⟨(some 13), none, false, .len false (.t 12)⟩,
 ⟨(some 14), none, false, .bin .lss (.t 11) (.t 13)⟩])
 (.cond (.t 14)
 .skip
 (.exit 0)))
 (.seq
 (.block 1
 (.seq
 (.reg true [0, 1, 5, 26] [⟨(some 17), none, false, .mov (.t 0)⟩,
 ⟨(some 18), none, false, .mov (.t 5)⟩,
 ⟨(some 19), none, false, .ia 4 (.t 17) (.t 18)⟩,
 ⟨(some 20), none, false, .ld (some 4) (.t 19)⟩,
 ⟨(some 21), none, false, .mov (.t 1)⟩,
 ⟨(some 22), none, false, .mov (.t 5)⟩,
 ⟨(some 23), none, false, .ia 4 (.t 21) (.t 22)⟩,
 ⟨(some 24), none, false, .ld (some 4) (.t 23)⟩,
 ⟨(some 25), none, false, .callP 79 [(.t 20), (.t 24)]⟩,
 ⟨(some 26), none, false, .un .not (.t 25)⟩])
 (.cond (.t 26)
 (.seq
 (.reg false [4] [⟨(some 4), none, false, .mov (.k (.d (.bool false)))⟩])
 .ret)
 .skip)))
 (.reg false [0, 1, 5] [⟨(some 15), none, false, .mov (.t 5)⟩,
 ⟨(some 16), none, false, .bin .add (.t 15) (.k (.d (.int .i64 1)))⟩,
 ⟨(some 5), none, false, .mov (.t 16)⟩]))))))
 (.seq
 (.reg false [4] [⟨(some 4), none, false, .mov (.k (.d (.bool true)))⟩])
 .ret))))
theorem c56 : (Go.Proofs.Tryd.f56).body.bind (comp prog.P (2, (Go.Proofs.Tryd.f56).ntmps) lv56) = some m56 := by kernel_rfl
theorem r56 : resOK prog.P (Go.Proofs.Tryd.f56).results.toList = true := by kernel_rfl

/-- laws.eqStringS -/
def lv57 : List (Nat × List Nat) := [(0, [0, 1]), (1, [0, 1, 10]), (2, [4]), (3, [0, 1, 5]), (4, [0, 1, 5, 14]), (5, [0, 1, 5]), (6, [0, 1, 5, 25]), (7, [4]), (8, [4])]
def m57 : MC :=
  (.seq
 (.reg false [0, 1] [⟨(some 4), none, false, .mov (.k (.d (.bool false)))⟩])
 (.seq
 (.seq
 (.reg false [0, 1, 10] [⟨(some 6), none, false, .mov (.t 0)⟩,
 ⟨(some 7), none, false, .len false (.t 6)⟩,
 ⟨(some 8), none, false, .mov (.t 1)⟩,
 ⟨(some 9), none, false, .len false (.t 8)⟩,
 ⟨(some 10), none, false, .bin .neq (.t 7) (.t 9)⟩])
 (.cond (.t 10)
 (.seq
 (.reg false [4] [⟨(some 4), none, false, .mov (.k (.d (.bool false)))⟩])
 .ret)
 .skip))
 (.seq
 (.seq
 (.reg false [0, 1, 5] [⟨(some 5), none, false, .mov (.k (.d (.int .i64 0)))⟩])
 (.block 0
 (.loop
 (.seq
 (.seq
 (.reg false [0, 1, 5, 14] [⟨(some 11), none, false, .mov (.t 5)⟩,
 ⟨(some 12), none, false, .mov (.t 0)⟩,
 ⟨(some 13), none, false, .len false (.t 12)⟩,
 ⟨(some 14), none, false, .bin .lss (.t 11) (.t 13)⟩])
 (.cond (.t 14)
 .skip
 (.exit 0)))
 (.seq
 (.block 1
 (.seq
 (.reg true [0, 1, 5, 25] [⟨(some 17), none, false, .mov (.t 0)⟩,
 ⟨(some 18), none, false, .mov (.t 5)⟩,
 ⟨(some 19), none, false, .ia 1 (.t 17) (.t 18)⟩,
 ⟨(some 20), none, false, .ld none (.t 19)⟩,
 ⟨(some 21), none, false, .mov (.t 1)⟩,
 ⟨(some 22), none, false, .mov (.t 5)⟩,
 ⟨(some 23), none, false, .ia 1 (.t 21) (.t 22)⟩,
 ⟨(some 24), none, false, .ld none (.t 23)⟩,
 ⟨(some 25), none, false, .bin .neq (.t 20) (.t 24)⟩])
 (.cond (.t 25)
 (.seq
 (.reg false [4] [⟨(some 4), none, false, .mov (.k (.d (.bool false)))⟩])
 .ret)
 .skip)))
 (.reg false [0, 1, 5] [⟨(some 15), none, false, .mov (.t 5)⟩,
 ⟨(some 16), none, false, .bin .add (.t 15) (.k (.d (.int .i64 1)))⟩,
 ⟨(some 5), none, false, .mov (.t 16)⟩]))))))
 (.seq
 (.reg false [4] [⟨(some 4), none, false, .mov (.k (.d (.bool true)))⟩])
 .ret))))
theorem c57 : (Go.Proofs.Tryd.f57).body.bind (comp prog.P (2, (Go.Proofs.Tryd.f57).ntmps) lv57) = some m57 := by kernel_rfl
theorem r57 : resOK prog.P (Go.Proofs.Tryd.f57).results.toList = true := by kernel_rfl

/-- spec.l1In -/
def lv61 : List (Nat × List Nat) := [(0, [0, 1, 2]), (1, [6])]
def m61 : MC :=
  (.seq
 (.reg false [0, 1, 2] [⟨(some 6), none, false, .mov (.k (.d (.bool false)))⟩])
 (.seq
 (.reg false [6] [⟨(some 7), none, false, .mov (.t 0)⟩,
 ⟨(some 8), none, false, .mov (.t 1)⟩,
 ⟨(some 9), none, false, .bin .geq (.t 7) (.t 8)⟩,
 ⟨(some 10), none, false, .mov (.t 9)⟩,
 ⟨(some 11), (some (10, true)), false, .mov (.t 0)⟩,
 ⟨(some 12), (some (10, true)), false, .mov (.t 2)⟩,
 ⟨(some 13), (some (10, true)), false, .bin .leq (.t 11) (.t 12)⟩,
 ⟨(some 14), none, false, .pick (.t 10) (.t 13) (.k (.d (.bool false)))⟩,
 ⟨(some 6), none, false, .mov (.t 14)⟩])
 .ret))
theorem c61 : (Go.Proofs.Tryd.f61).body.bind (comp prog.P (3, (Go.Proofs.Tryd.f61).ntmps) lv61) = some m61 := by kernel_rfl
theorem r61 : resOK prog.P (Go.Proofs.Tryd.f61).results.toList = true := by kernel_rfl

/-- strings.Trim -/
def lv64 : List (Nat × List Nat) := [(0, [0, 1]), (1, [0, 1, 12]), (2, [4]), (3, [0, 1, 21]), (4, [4]), (5, [0, 1, 5, 6]), (6, [0, 1, 5, 34]), (7, [4]), (8, [4])]
def m64 : MC :=
  (.seq
 (.reg false [0, 1] [⟨(some 4), none, false, .mov (.k (.d (.str [])))⟩])
 (.seq
 (.seq
 (.reg false [0, 1, 12] [⟨(some 7), none, false, .mov (.t 0)⟩,
 ⟨(some 8), none, false, .bin .eql (.t 7) (.k (.d (.str [])))⟩,
 ⟨(some 9), none, false, .mov (.t 8)⟩,
 ⟨(some 10), (some (9, false)), false, .mov (.t 1)⟩,
 ⟨(some 11), (some (9, false)), false, .bin .eql (.t 10) (.k (.d (.str [])))⟩,
 ⟨(some 12), none, false, .pick (.t 9) (.k (.d (.bool true))) (.t 11)⟩])
 (.cond (.t 12)
 (.seq
 (.reg false [4] [⟨(some 13), none, false, .mov (.t 0)⟩,
 ⟨(some 4), none, false, .mov (.t 13)⟩])
 .ret)
 .skip))
 (.seq
 (.seq
 (.reg false [0, 1, 21] [⟨(some 14), none, false, .mov (.t 1)⟩,
 ⟨(some 15), none, false, .len true (.t 14)⟩,
 ⟨(some 16), none, false, .bin .eql (.t 15) (.k (.d (.int .i64 1)))⟩,
 ⟨(some 17), none, false, .mov (.t 16)⟩,
 ⟨(some 18), (some (17, true)), false, .mov (.t 1)⟩,
 ⟨(some 19), (some (17, true)), false, .ix (.t 18) (.k (.d (.int .i64 0)))⟩,
 ⟨(some 20), (some (17, true)), false, .bin .lss (.t 19) (.k (.d (.int .u8 128)))⟩,
 ⟨(some 21), none, false, .pick (.t 17) (.t 20) (.k (.d (.bool false)))⟩])
 (.cond (.t 21)
 (.seq
 (.reg true [4] [⟨(some 22), none, false, .mov (.t 0)⟩,
 ⟨(some 23), none, false, .mov (.t 1)⟩,
 ⟨(some 24), none, false, .ix (.t 23) (.k (.d (.int .i64 0)))⟩,
 ⟨(some 25), none, false, .callP 83 [(.t 22), (.t 24)]⟩,
 ⟨(some 26), none, false, .mov (.t 1)⟩,
 ⟨(some 27), none, false, .ix (.t 26) (.k (.d (.int .i64 0)))⟩,
 ⟨(some 28), none, false, .callP 82 [(.t 25), (.t 27)]⟩,
 ⟨(some 4), none, false, .mov (.t 28)⟩])
 .ret)
 .skip))
 (.seq
 (.seq
 (.reg false [0, 1, 5, 6] [⟨(some 30), none, false, .mov (.t 1)⟩,
 ⟨(some 31), none, true, .call 84 [(.t 30)]⟩,
 ⟨(some 29), none, false, .mov (.t 31)⟩,
 ⟨(some 32), none, false, .ext (.t 29) 0⟩,
 ⟨(some 33), none, false, .ext (.t 29) 1⟩,
 ⟨(some 5), none, true, .alloc (.st (ofL (List.replicate 256 (.bool false))))⟩,
 ⟨none, none, true, .st 256 (.t 5) (.t 32)⟩,
 ⟨(some 6), none, false, .mov (.t 33)⟩])
 (.seq
 (.reg false [0, 1, 5, 34] [⟨(some 34), none, false, .mov (.t 6)⟩])
 (.cond (.t 34)
 (.seq
 (.reg false [4] [⟨(some 35), none, false, .mov (.t 0)⟩,
 ⟨(some 36), none, true, .call 86 [(.t 35), (.t 5)]⟩,
 ⟨(some 37), none, true, .call 85 [(.t 36), (.t 5)]⟩,
 ⟨(some 4), none, false, .mov (.t 37)⟩])
 .ret)
 .skip)))
 (.seq
 (.reg false [4] [⟨(some 38), none, false, .mov (.t 0)⟩,
 ⟨(some 39), none, false, .mov (.t 1)⟩,
 ⟨(some 40), none, true, .call 88 [(.t 38), (.t 39)]⟩,
 ⟨(some 41), none, false, .mov (.t 1)⟩,
 ⟨(some 42), none, true, .call 87 [(.t 40), (.t 41)]⟩,
 ⟨(some 4), none, false, .mov (.t 42)⟩])
 .ret)))))
theorem c64 : (Go.Proofs.Tryd.f64).body.bind (comp prog.P (2, (Go.Proofs.Tryd.f64).ntmps) lv64) = some m64 := by kernel_rfl
theorem r64 : resOK prog.P (Go.Proofs.Tryd.f64).results.toList = true := by kernel_rfl

/-- laws.szCase -/
def lv67 : List (Nat × List Nat) := [(0, [1, 2]), (1, [1]), (2, [1, 10]), (3, [4]), (4, [4])]
def m67 : MC :=
  (.seq
 (.reg false [1, 2] [⟨(some 2), none, true, .box (.t 0)⟩,
 ⟨(some 4), none, false, .mov (.k (.d (.int .i64 0)))⟩])
 (.seq
 (.reg false [1] [⟨(some 5), none, false, .fa 3 3 (.t 2)⟩,
 ⟨(some 6), none, false, .ld none (.t 5)⟩,
 ⟨(some 7), none, false, .mov (.t 1)⟩,
 ⟨(some 8), none, true, .call 91 [(.t 6), (.t 7)]⟩,
 ⟨(some 1), none, false, .mov (.t 8)⟩])
 (.seq
 (.seq
 (.reg false [1, 10] [⟨(some 9), none, false, .mov (.t 1)⟩,
 ⟨(some 10), none, false, .bin .lss (.t 9) (.k (.d (.int .i64 0)))⟩])
 (.cond (.t 10)
 (.seq
 (.reg false [4] [⟨(some 4), none, false, .mov (.k (.d (.int .i64 (-1))))⟩])
 .ret)
 .skip))
 (.seq
 (.reg false [4] [⟨(some 11), none, false, .mov (.t 1)⟩,
 ⟨(some 4), none, false, .mov (.t 11)⟩])
 .ret))))
theorem c67 : (Go.Proofs.Tryd.f67).body.bind (comp prog.P (1, (Go.Proofs.Tryd.f67).ntmps) lv67) = some m67 := by kernel_rfl
theorem r67 : resOK prog.P (Go.Proofs.Tryd.f67).results.toList = true := by kernel_rfl

/-- spec.l2Day -/
def lv68 : List (Nat × List Nat) := [(0, [0]), (1, [2])]
def m68 : MC :=
  (.seq
 (.reg false [0] [⟨(some 2), none, false, .mov (.k (.d (.bool false)))⟩])
 (.seq
 (.reg false [2] [⟨(some 3), none, false, .mov (.t 0)⟩,
 ⟨(some 4), none, true, .call 61 [(.t 3), (.k (.d (.int .i64 0))), (.k (.d (.int .i64 20000)))]⟩,
 ⟨(some 2), none, false, .mov (.t 4)⟩])
 .ret))
theorem c68 : (Go.Proofs.Tryd.f68).body.bind (comp prog.P (1, (Go.Proofs.Tryd.f68).ntmps) lv68) = some m68 := by kernel_rfl
theorem r68 : resOK prog.P (Go.Proofs.Tryd.f68).results.toList = true := by kernel_rfl

/-- spec.l16Good -/
def lv69 : List (Nat × List Nat) := [(0, [0]), (1, [0, 3]), (2, [0, 3, 7]), (3, [0, 3]), (4, [0, 3, 15]), (5, [2]), (6, [2])]
def m69 : MC :=
  (.seq
 (.reg false [0] [⟨(some 2), none, false, .mov (.k (.d (.bool false)))⟩])
 (.seq
 (.seq
 (.reg false [0, 3] [⟨(some 3), none, false, .mov (.k (.d (.int .i64 0)))⟩])
 (.block 0
 (.loop
 (.seq
 (.seq
 (.reg false [0, 3, 7] [⟨(some 4), none, false, .mov (.t 3)⟩,
 ⟨(some 5), none, false, .mov (.t 0)⟩,
 ⟨(some 6), none, false, .len false (.t 5)⟩,
 ⟨(some 7), none, false, .bin .lss (.t 4) (.t 6)⟩])
 (.cond (.t 7)
 .skip
 (.exit 0)))
 (.seq
 (.block 1
 (.seq
 (.reg false [0, 3, 15] [⟨(some 10), none, false, .mov (.t 0)⟩,
 ⟨(some 11), none, false, .mov (.t 3)⟩,
 ⟨(some 12), none, false, .ia 1 (.t 10) (.t 11)⟩,
 ⟨(some 13), none, false, .ld none (.t 12)⟩,
 ⟨(some 14), none, true, .call 92 [(.t 13)]⟩,
 ⟨(some 15), none, false, .un .not (.t 14)⟩])
 (.cond (.t 15)
 (.seq
 (.reg false [2] [⟨(some 2), none, false, .mov (.k (.d (.bool false)))⟩])
 .ret)
 .skip)))
 (.reg false [0, 3] [⟨(some 8), none, false, .mov (.t 3)⟩,
 ⟨(some 9), none, false, .bin .add (.t 8) (.k (.d (.int .i64 1)))⟩,
 ⟨(some 3), none, false, .mov (.t 9)⟩]))))))
 (.seq
 (.reg false [2] [⟨(some 16), none, false, .mov (.t 0)⟩,
 ⟨(some 17), none, false, .len false (.t 16)⟩,
 ⟨(some 18), none, true, .call 61 [(.t 17), (.k (.d (.int .i64 1))), (.k (.d (.int .i64 8)))]⟩,
 ⟨(some 2), none, false, .mov (.t 18)⟩])
 .ret)))
theorem c69 : (Go.Proofs.Tryd.f69).body.bind (comp prog.P (1, (Go.Proofs.Tryd.f69).ntmps) lv69) = some m69 := by kernel_rfl
theorem r69 : resOK prog.P (Go.Proofs.Tryd.f69).results.toList = true := by kernel_rfl

/-- spec.l25Case -/
def lv70 : List (Nat × List Nat) := [(0, [1]), (1, [2])]
def m70 : MC :=
  (.seq
 (.reg false [1] [⟨(some 1), none, true, .box (.t 0)⟩,
 ⟨(some 2), none, false, .mov (.k (.d (.bool false)))⟩])
 (.seq
 (.reg false [2] [⟨(some 3), none, false, .fa 0 0 (.t 1)⟩,
 ⟨(some 4), none, false, .ld none (.t 3)⟩,
 ⟨(some 5), none, true, .call 61 [(.t 4), (.k (.d (.int .i64 1))), (.k (.d (.int .i64 999)))]⟩,
 ⟨(some 6), none, false, .mov (.t 5)⟩,
 ⟨(some 7), (some (6, true)), false, .fa 1 1 (.t 1)⟩,
 ⟨(some 8), (some (6, true)), false, .ld none (.t 7)⟩,
 ⟨(some 9), (some (6, true)), true, .call 61 [(.t 8), (.k (.d (.int .i64 1))), (.k (.d (.int .i64 3)))]⟩,
 ⟨(some 10), none, false, .pick (.t 6) (.t 9) (.k (.d (.bool false)))⟩,
 ⟨(some 11), none, false, .mov (.t 10)⟩,
 ⟨(some 12), (some (11, true)), false, .fa 2 2 (.t 1)⟩,
 ⟨(some 13), (some (11, true)), false, .ld none (.t 12)⟩,
 ⟨(some 14), (some (11, true)), true, .call 68 [(.t 13)]⟩,
 ⟨(some 15), none, false, .pick (.t 11) (.t 14) (.k (.d (.bool false)))⟩,
 ⟨(some 16), none, false, .mov (.t 15)⟩,
 ⟨(some 17), (some (16, true)), false, .fa 3 3 (.t 1)⟩,
 ⟨(some 18), (some (16, true)), false, .ld none (.t 17)⟩,
 ⟨(some 19), (some (16, true)), false, .len false (.t 18)⟩,
 ⟨(some 20), (some (16, true)), false, .bin .leq (.t 19) (.k (.d (.int .i64 5)))⟩,
 ⟨(some 21), none, false, .pick (.t 16) (.t 20) (.k (.d (.bool false)))⟩,
 ⟨(some 22), none, false, .mov (.t 21)⟩,
 ⟨(some 23), (some (22, true)), false, .fa 3 3 (.t 1)⟩,
 ⟨(some 24), (some (22, true)), false, .ld none (.t 23)⟩,
 ⟨(some 25), (some (22, true)), true, .call 93 [(.t 24), (.k (.d (.int .i64 1))), (.k (.d (.int .i64 9)))]⟩,
 ⟨(some 26), none, false, .pick (.t 22) (.t 25) (.k (.d (.bool false)))⟩,
 ⟨(some 2), none, false, .mov (.t 26)⟩])
 .ret))
theorem c70 : (Go.Proofs.Tryd.f70).body.bind (comp prog.P (1, (Go.Proofs.Tryd.f70).ntmps) lv70) = some m70 := by kernel_rfl
theorem r70 : resOK prog.P (Go.Proofs.Tryd.f70).results.toList = true := by kernel_rfl

/-- spec.l16Leaves -/
def lv71 : List (Nat × List Nat) := [(0, [0]), (1, [0, 3]), (2, [0, 3, 4]), (3, [0, 3, 4, 9]), (4, [0, 3, 4]), (5, [0, 3, 4]), (6, [2])]
def m71 : MC :=
  (.seq
 (.reg false [0] [⟨(some 2), none, false, .mov (.k .nil)⟩])
 (.seq
 (.reg false [0, 3] [⟨(some 5), none, true, .bs 1 0 (.int .i64 0) []⟩,
 ⟨(some 3), none, false, .mov (.t 5)⟩])
 (.seq
 (.seq
 (.reg false [0, 3, 4] [⟨(some 4), none, false, .mov (.k (.d (.int .i64 0)))⟩])
 (.block 0
 (.loop
 (.seq
 (.seq
 (.reg false [0, 3, 4, 9] [⟨(some 6), none, false, .mov (.t 4)⟩,
 ⟨(some 7), none, false, .mov (.t 0)⟩,
 ⟨(some 8), none, false, .len false (.t 7)⟩,
 ⟨(some 9), none, false, .bin .lss (.t 6) (.t 8)⟩])
 (.cond (.t 9)
 .skip
 (.exit 0)))
 (.seq
 (.block 1
 (.reg false [0, 3, 4] [⟨(some 12), none, false, .mov (.t 3)⟩,
 ⟨(some 13), none, false, .mov (.t 0)⟩,
 ⟨(some 14), none, false, .mov (.t 4)⟩,
 ⟨(some 15), none, false, .ia 1 (.t 13) (.t 14)⟩,
 ⟨(some 16), none, false, .ld none (.t 15)⟩,
 ⟨(some 17), none, true, .call 94 [(.t 16)]⟩,
 ⟨(some 18), none, true, .bs 1 1 (.int .i64 0) [(0, (.t 17))]⟩,
 ⟨(some 19), none, true, .app 1 8 (.t 12) (.t 18)⟩,
 ⟨(some 3), none, false, .mov (.t 19)⟩]))
 (.reg false [0, 3, 4] [⟨(some 10), none, false, .mov (.t 4)⟩,
 ⟨(some 11), none, false, .bin .add (.t 10) (.k (.d (.int .i64 1)))⟩,
 ⟨(some 4), none, false, .mov (.t 11)⟩]))))))
 (.seq
 (.reg false [2] [⟨(some 20), none, false, .mov (.t 3)⟩,
 ⟨(some 2), none, false, .mov (.t 20)⟩])
 .ret))))
theorem c71 : (Go.Proofs.Tryd.f71).body.bind (comp prog.P (1, (Go.Proofs.Tryd.f71).ntmps) lv71) = some m71 := by kernel_rfl
theorem r71 : resOK prog.P (Go.Proofs.Tryd.f71).results.toList = true := by kernel_rfl

/-- spec.l16Round -/
def lv72 : List (Nat × List Nat) := [(0, [0]), (1, [0, 3]), (2, [0, 3, 4]), (3, [0, 3, 4, 9]), (4, [0, 3, 4]), (5, [0, 3, 4, 16]), (6, [0, 3, 4]), (7, [0, 3, 4]), (8, [2]), (1000006, [0, 1, 0, 1, 1, 1, 2, 1, 3, 1, 4, 1, 5, 1, 6, 1, 7, 1, 8, 1, 9, 2, 10, 2, 11, 2, 12, 1, 13, 0])]
def m72 : MC :=
  (.seq
 (.reg false [0] [⟨(some 2), none, false, .mov (.k .nil)⟩])
 (.seq
 (.reg false [0, 3] [⟨(some 5), none, true, .bs 1 0 (.int .i64 0) []⟩,
 ⟨(some 3), none, false, .mov (.t 5)⟩])
 (.seq
 (.seq
 (.reg false [0, 3, 4] [⟨(some 4), none, false, .mov (.k (.d (.int .i64 0)))⟩])
 (.block 0
 (.loop
 (.seq
 (.seq
 (.reg false [0, 3, 4, 9] [⟨(some 6), none, false, .mov (.t 4)⟩,
 ⟨(some 7), none, false, .mov (.t 0)⟩,
 ⟨(some 8), none, false, .len false (.t 7)⟩,
 ⟨(some 9), none, false, .bin .lss (.t 6) (.t 8)⟩])
 (.cond (.t 9)
 .skip
 (.exit 0)))
 (.seq
 (.block 1
 (.seq
 (.reg false [0, 3, 4, 16] [⟨(some 12), none, false, .mov (.t 4)⟩,
 ⟨(some 13), none, false, .bin .add (.t 12) (.k (.d (.int .i64 1)))⟩,
 ⟨(some 14), none, false, .mov (.t 0)⟩,
 ⟨(some 15), none, false, .len false (.t 14)⟩,
 ⟨(some 16), none, false, .bin .lss (.t 13) (.t 15)⟩])
 (.cond (.t 16)
 (.any [] [0, 3, 4] (.q 0 ⟨(some 17), none, false, .mov (.t 3)⟩ (.q 1 ⟨(some 18), none, false, .mov (.t 0)⟩ (.q 2 ⟨(some 19), none, false, .mov (.t 4)⟩ (.q 3 ⟨(some 20), none, false, .ia 1 (.t 18) (.t 19)⟩ (.q 4 ⟨(some 21), none, false, .ld none (.t 20)⟩ (.q 5 ⟨(some 22), none, false, .mov (.t 0)⟩ (.q 6 ⟨(some 23), none, false, .mov (.t 4)⟩ (.q 7 ⟨(some 24), none, false, .bin .add (.t 23) (.k (.d (.int .i64 1)))⟩ (.q 8 ⟨(some 25), none, false, .ia 1 (.t 22) (.t 24)⟩ (.q 9 ⟨(some 26), none, false, .ld none (.t 25)⟩ (.e 10 ⟨(some 27), none, true, .call 95 [(.t 21), (.t 26)]⟩ (.e 11 ⟨(some 28), none, true, .bs 1 1 (.int .i64 0) [(0, (.t 27))]⟩ (.e 12 ⟨(some 29), none, true, .app 1 8 (.t 17) (.t 28)⟩ (.q 13 ⟨(some 3), none, false, .mov (.t 29)⟩ .done)))))))))))))))
 (.reg false [0, 3, 4] [⟨(some 30), none, false, .mov (.t 3)⟩,
 ⟨(some 31), none, false, .mov (.t 0)⟩,
 ⟨(some 32), none, false, .mov (.t 4)⟩,
 ⟨(some 33), none, false, .ia 1 (.t 31) (.t 32)⟩,
 ⟨(some 34), none, false, .ld none (.t 33)⟩,
 ⟨(some 35), none, true, .bs 1 1 (.int .i64 0) [(0, (.t 34))]⟩,
 ⟨(some 36), none, true, .app 1 8 (.t 30) (.t 35)⟩,
 ⟨(some 3), none, false, .mov (.t 36)⟩]))))
 (.reg false [0, 3, 4] [⟨(some 10), none, false, .mov (.t 4)⟩,
 ⟨(some 11), none, false, .bin .add (.t 10) (.k (.d (.int .i64 2)))⟩,
 ⟨(some 4), none, false, .mov (.t 11)⟩]))))))
 (.seq
 (.reg false [2] [⟨(some 37), none, false, .mov (.t 3)⟩,
 ⟨(some 2), none, false, .mov (.t 37)⟩])
 .ret))))
theorem c72 : (Go.Proofs.Tryd.f72).body.bind (comp prog.P (1, (Go.Proofs.Tryd.f72).ntmps) lv72) = some m72 := by kernel_rfl
theorem r72 : resOK prog.P (Go.Proofs.Tryd.f72).results.toList = true := by kernel_rfl

/-- laws.toCase -/
def lv73 : List (Nat × List Nat) := [(0, [1, 2]), (1, [1, 2, 3]), (2, [1, 2, 3]), (3, [1, 2, 3]), (4, [1, 2, 3]), (5, [2, 3]), (6, [2])]
def m73 : MC :=
  (.seq
 (.reg false [1, 2] [⟨(some 1), none, true, .box (.t 0)⟩,
 ⟨(some 2), none, true, .alloc (.st (.cons (.int .i64 0) (.cons (.int .i64 0) (.cons (.int .i64 0) (.cons (.sl true 1 .nil) .nil)))))⟩])
 (.seq
 (.reg false [1, 2, 3] [⟨(some 3), none, true, .alloc (.st (.cons (.int .i64 0) (.cons (.int .i64 0) (.cons (.int .i64 0) (.cons (.sl true 1 .nil) .nil)))))⟩])
 (.seq
 (.reg false [1, 2, 3] [⟨(some 4), none, false, .fa 0 0 (.t 1)⟩,
 ⟨(some 5), none, false, .ld none (.t 4)⟩,
 ⟨(some 6), none, false, .fa 0 0 (.t 3)⟩,
 ⟨none, none, true, .st 1 (.t 6) (.t 5)⟩])
 (.seq
 (.reg false [1, 2, 3] [⟨(some 7), none, false, .fa 1 1 (.t 1)⟩,
 ⟨(some 8), none, false, .ld none (.t 7)⟩,
 ⟨(some 9), none, false, .fa 1 1 (.t 3)⟩,
 ⟨none, none, true, .st 1 (.t 9) (.t 8)⟩])
 (.seq
 (.reg false [1, 2, 3] [⟨(some 10), none, false, .fa 2 2 (.t 1)⟩,
 ⟨(some 11), none, false, .ld none (.t 10)⟩,
 ⟨(some 12), none, false, .fa 2 2 (.t 3)⟩,
 ⟨none, none, true, .st 1 (.t 12) (.t 11)⟩])
 (.seq
 (.reg false [2, 3] [⟨(some 13), none, false, .fa 3 3 (.t 1)⟩,
 ⟨(some 14), none, false, .ld none (.t 13)⟩,
 ⟨(some 15), none, true, .call 96 [(.t 14)]⟩,
 ⟨(some 16), none, false, .fa 3 3 (.t 3)⟩,
 ⟨none, none, true, .st 1 (.t 16) (.t 15)⟩])
 (.seq
 (.reg false [2] [⟨(some 17), none, false, .ld (some 4) (.t 3)⟩,
 ⟨none, none, true, .st 4 (.t 2) (.t 17)⟩])
 .ret)))))))
theorem c73 : (Go.Proofs.Tryd.f73).body.bind (comp prog.P (1, (Go.Proofs.Tryd.f73).ntmps) lv73) = some m73 := by kernel_rfl
theorem r73 : resOK prog.P (Go.Proofs.Tryd.f73).results.toList = true := by kernel_rfl

/-- impl.isDay -/
def lv74 : List (Nat × List Nat) := [(0, [0]), (1, [2])]
def m74 : MC :=
  (.seq
 (.reg false [0] [⟨(some 2), none, false, .mov (.k (.d (.bool false)))⟩])
 (.seq
 (.reg false [2] [⟨(some 3), none, false, .mov (.t 0)⟩,
 ⟨(some 4), none, true, .call 33 [(.t 3), (.k (.d (.int .i64 0))), (.k (.d (.int .i64 20000)))]⟩,
 ⟨(some 2), none, false, .mov (.t 4)⟩])
 .ret))
theorem c74 : (Go.Proofs.Tryd.f74).body.bind (comp prog.P (1, (Go.Proofs.Tryd.f74).ntmps) lv74) = some m74 := by kernel_rfl
theorem r74 : resOK prog.P (Go.Proofs.Tryd.f74).results.toList = true := by kernel_rfl

end Go.Pe.Tryd
