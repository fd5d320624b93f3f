/-
The compact code of the functions that the law reaches, printed by gen.py, each with the proof that the machine's code is compiled to it.
-/
import Derived.Test.YtepedloehigedaaDoorPeC
import Derived.Lib.ItoaNum
import Derived.Lib.LaidTab
import Derived.Test.YtepedloehigedaaDoorProg
import Derived.KernelRfl
set_option maxRecDepth 100000
namespace Go.Pe.Tryd
open Go.Pe

/-- of the start-up memory it is asked that the library's table of powers of ten stands. -/
theorem tab_stab {P : Program} {n : String} {k : IntKind} {zs : List Int} {g : Nat} (hg : P.globalNamed n = some g) (w w' : World) (_ : w.heap.size ≤ w'.heap.size) (hk : ∀ b, b < w.heap.size → w'.heap[b]? = w.heap[b]?) (h : Go.Lib.TabIs P w n k zs) : Go.Lib.TabIs P w' n k zs := by
  unfold Go.Lib.TabIs World.var? at h ⊢
  rw [hg] at h ⊢
  simp only [Option.bind_some] at h ⊢
  by_cases hb : g < w.heap.size
  · rw [hk g hb]; exact h
  · rw [Array.getElem?_eq_none (by omega)] at h
    simp at h
noncomputable def prog : PG := ⟨Go.Proofs.Tryd.prog, fun w => Go.Lib.TabIs Go.Proofs.Tryd.prog w "internal/strconv.uint64pow10" .u64 Go.Lib.pow10Tab, fun w w' hs hk h => tab_stab (show Go.Proofs.Tryd.prog.globalNamed "internal/strconv.uint64pow10" = some 1 by kernel_rfl) w w' hs hk h⟩

theorem sz26 : sizeOfT prog.P 26 = some 5 := by kernel_rfl

/-- laws.FnExactYearLine -/
def lv3 : List (Nat × List Nat) := [(0, [1]), (1, [1, 3, 4]), (2, [3, 4, 5, 6]), (3, [26]), (4, [2]), (5, [2])]
def m3 : MC :=
  (.seq
 (.reg false [1] [⟨(some 1), none, true, .box (.t 0)⟩,
 ⟨(some 2), none, false, .mov (.k (.d (.bool false)))⟩])
 (.seq
 (.reg false [1, 3, 4] [⟨(some 8), none, false, .ld (some 5) (.t 1)⟩,
 ⟨(some 9), none, true, .call 8 [(.t 8)]⟩,
 ⟨(some 10), none, true, .call 7 [(.t 9)]⟩,
 ⟨(some 7), none, false, .mov (.t 10)⟩,
 ⟨(some 11), none, false, .ext (.t 7) 0⟩,
 ⟨(some 12), none, false, .ext (.t 7) 1⟩,
 ⟨(some 3), none, false, .mov (.t 11)⟩,
 ⟨(some 4), none, false, .mov (.t 12)⟩])
 (.seq
 (.reg false [3, 4, 5, 6] [⟨(some 14), none, false, .ld (some 5) (.t 1)⟩,
 ⟨(some 15), none, true, .call 8 [(.t 14)]⟩,
 ⟨(some 16), none, true, .call 9 [(.t 15)]⟩,
 ⟨(some 13), none, false, .mov (.t 16)⟩,
 ⟨(some 17), none, false, .ext (.t 13) 0⟩,
 ⟨(some 18), none, false, .ext (.t 13) 1⟩,
 ⟨(some 5), none, false, .mov (.t 17)⟩,
 ⟨(some 6), none, false, .mov (.t 18)⟩])
 (.seq
 (.seq
 (.reg false [26] [⟨(some 19), none, false, .mov (.t 5)⟩,
 ⟨(some 20), none, false, .mov (.t 3)⟩,
 ⟨(some 21), none, false, .bin .neq (.t 19) (.t 20)⟩,
 ⟨(some 22), none, false, .mov (.t 21)⟩,
 ⟨(some 23), (some (22, false)), false, .mov (.t 6)⟩,
 ⟨(some 24), (some (22, false)), false, .mov (.t 4)⟩,
 ⟨(some 25), (some (22, false)), false, .bb .neq (.t 23) (.t 24)⟩,
 ⟨(some 26), none, false, .pick (.t 22) (.k (.d (.bool true))) (.t 25)⟩])
 (.cond (.t 26)
 (.seq
 (.reg false [2] [⟨(some 2), none, false, .mov (.k (.d (.bool false)))⟩])
 .ret)
 .skip))
 (.seq
 (.reg false [2] [⟨(some 2), none, false, .mov (.k (.d (.bool true)))⟩])
 .ret)))))
theorem c3 : (Go.Proofs.Tryd.f3).body.bind (comp prog.P (1, (Go.Proofs.Tryd.f3).ntmps) lv3) = some m3 := by kernel_rfl
theorem r3 : resOK prog.P (Go.Proofs.Tryd.f3).results.toList = true := by kernel_rfl

/-- laws.FnExactYearReport -/
def lv4 : List (Nat × List Nat) := [(0, [0, 1]), (1, [0, 1, 5]), (2, [0, 1, 5]), (3, [0, 1, 15]), (4, [4]), (5, [0, 1, 6, 7]), (6, [0, 1, 6, 7, 8]), (7, [1, 6, 7, 8, 9, 10]), (8, [1, 8, 38]), (9, [4]), (10, [43]), (11, [4]), (12, [4])]
def m4 : MC :=
  (.seq
 (.reg false [0, 1] [⟨(some 4), none, false, .mov (.k (.d (.bool false)))⟩])
 (.seq
 (.reg false [0, 1, 5] [⟨(some 5), none, false, .mov (.k (.d (.int .i64 1048576)))⟩])
 (.seq
 (.reg false [0, 1, 5] [⟨(some 11), none, false, .mov (.t 1)⟩,
 ⟨(some 12), none, false, .mov (.t 5)⟩,
 ⟨(some 13), none, true, .call 10 [(.t 11), (.t 12)]⟩,
 ⟨(some 5), none, false, .mov (.t 13)⟩])
 (.seq
 (.seq
 (.reg false [0, 1, 15] [⟨(some 14), none, false, .mov (.t 5)⟩,
 ⟨(some 15), none, false, .bin .lss (.t 14) (.k (.d (.int .i64 0)))⟩])
 (.cond (.t 15)
 (.seq
 (.reg false [4] [⟨(some 4), none, false, .mov (.k (.d (.bool true)))⟩])
 .ret)
 .skip))
 (.seq
 (.reg false [0, 1, 6, 7] [⟨(some 17), none, false, .mov (.t 0)⟩,
 ⟨(some 18), none, false, .mov (.t 1)⟩,
 ⟨(some 19), none, true, .call 12 [(.t 18)]⟩,
 ⟨(some 20), none, true, .call 11 [(.t 17), (.t 19)]⟩,
 ⟨(some 16), none, false, .mov (.t 20)⟩,
 ⟨(some 21), none, false, .ext (.t 16) 0⟩,
 ⟨(some 22), none, false, .ext (.t 16) 1⟩,
 ⟨(some 6), none, false, .mov (.t 21)⟩,
 ⟨(some 7), none, false, .mov (.t 22)⟩])
 (.seq
 (.reg false [0, 1, 6, 7, 8] [⟨(some 23), none, false, .mov (.t 1)⟩,
 ⟨(some 24), none, true, .call 12 [(.t 23)]⟩,
 ⟨(some 8), none, false, .mov (.t 24)⟩])
 (.seq
 (.reg false [1, 6, 7, 8, 9, 10] [⟨(some 26), none, false, .mov (.t 0)⟩,
 ⟨(some 27), none, false, .mov (.t 8)⟩,
 ⟨(some 28), none, true, .call 13 [(.t 26), (.t 27)]⟩,
 ⟨(some 25), none, false, .mov (.t 28)⟩,
 ⟨(some 29), none, false, .ext (.t 25) 0⟩,
 ⟨(some 30), none, false, .ext (.t 25) 1⟩,
 ⟨(some 9), none, false, .mov (.t 29)⟩,
 ⟨(some 10), none, false, .mov (.t 30)⟩])
 (.seq
 (.seq
 (.reg false [1, 8, 38] [⟨(some 31), none, false, .mov (.t 9)⟩,
 ⟨(some 32), none, false, .mov (.t 6)⟩,
 ⟨(some 33), none, false, .bin .neq (.t 31) (.t 32)⟩,
 ⟨(some 34), none, false, .mov (.t 33)⟩,
 ⟨(some 35), (some (34, false)), false, .mov (.t 10)⟩,
 ⟨(some 36), (some (34, false)), false, .mov (.t 7)⟩,
 ⟨(some 37), (some (34, false)), false, .bb .neq (.t 35) (.t 36)⟩,
 ⟨(some 38), none, false, .pick (.t 34) (.k (.d (.bool true))) (.t 37)⟩])
 (.cond (.t 38)
 (.seq
 (.reg false [4] [⟨(some 4), none, false, .mov (.k (.d (.bool false)))⟩])
 .ret)
 .skip))
 (.seq
 (.seq
 (.reg false [43] [⟨(some 39), none, false, .mov (.t 8)⟩,
 ⟨(some 40), none, false, .mov (.t 1)⟩,
 ⟨(some 41), none, true, .call 12 [(.t 40)]⟩,
 ⟨(some 42), none, true, .call 14 [(.t 39), (.t 41)]⟩,
 ⟨(some 43), none, false, .un .not (.t 42)⟩])
 (.cond (.t 43)
 (.seq
 (.reg false [4] [⟨(some 4), none, false, .mov (.k (.d (.bool false)))⟩])
 .ret)
 .skip))
 (.seq
 (.reg false [4] [⟨(some 4), none, false, .mov (.k (.d (.bool true)))⟩])
 .ret))))))))))
theorem c4 : (Go.Proofs.Tryd.f4).body.bind (comp prog.P (2, (Go.Proofs.Tryd.f4).ntmps) lv4) = some m4 := by kernel_rfl
theorem r4 : resOK prog.P (Go.Proofs.Tryd.f4).results.toList = true := by kernel_rfl

/-- spec.YearLine -/
def lv7 : List (Nat × List Nat) := [(0, [1]), (1, [1, 6]), (2, [2, 3]), (3, [2, 3])]
def m7 : MC :=
  (.seq
 (.reg false [1] [⟨(some 1), none, true, .box (.t 0)⟩,
 ⟨(some 2), none, false, .mov (.k (.d (.str [])))⟩,
 ⟨(some 3), none, false, .mov (.k (.d (.bool false)))⟩])
 (.seq
 (.seq
 (.reg false [1, 6] [⟨(some 4), none, false, .ld (some 5) (.t 1)⟩,
 ⟨(some 5), none, true, .call 26 [(.t 4)]⟩,
 ⟨(some 6), none, false, .un .not (.t 5)⟩])
 (.cond (.t 6)
 (.seq
 (.reg false [2, 3] [⟨(some 2), none, false, .mov (.k (.d (.str [])))⟩,
 ⟨(some 3), none, false, .mov (.k (.d (.bool false)))⟩])
 .ret)
 .skip))
 (.seq
 (.reg false [2, 3] [⟨(some 7), none, false, .ld (some 5) (.t 1)⟩,
 ⟨(some 8), none, true, .call 27 [(.t 7)]⟩,
 ⟨(some 2), none, false, .mov (.t 8)⟩,
 ⟨(some 3), none, false, .mov (.k (.d (.bool true)))⟩])
 .ret)))
theorem c7 : (Go.Proofs.Tryd.f7).body.bind (comp prog.P (1, (Go.Proofs.Tryd.f7).ntmps) lv7) = some m7 := by kernel_rfl
theorem r7 : resOK prog.P (Go.Proofs.Tryd.f7).results.toList = true := by kernel_rfl

/-- laws.toYearRow -/
def lv8 : List (Nat × List Nat) := [(0, [1, 2]), (1, [1, 2, 3]), (2, [1, 2, 3]), (3, [1, 2, 3]), (4, [1, 2, 3]), (5, [1, 2, 3]), (6, [2, 3]), (7, [2])]
def m8 : MC :=
  (.seq
 (.reg false [1, 2] [⟨(some 1), none, true, .box (.t 0)⟩,
 ⟨(some 2), none, true, .alloc (.st (.cons (.int .i64 0) (.cons (.int .i64 0) (.cons (.int .i64 0) (.cons (.int .i64 0) (.cons (.int .i64 0) .nil))))))⟩])
 (.seq
 (.reg false [1, 2, 3] [⟨(some 3), none, true, .alloc (.st (.cons (.int .i64 0) (.cons (.int .i64 0) (.cons (.int .i64 0) (.cons (.int .i64 0) (.cons (.int .i64 0) .nil))))))⟩])
 (.seq
 (.reg false [1, 2, 3] [⟨(some 4), none, false, .fa 0 0 (.t 1)⟩,
 ⟨(some 5), none, false, .ld none (.t 4)⟩,
 ⟨(some 6), none, false, .fa 0 0 (.t 3)⟩,
 ⟨none, none, true, .st 1 (.t 6) (.t 5)⟩])
 (.seq
 (.reg false [1, 2, 3] [⟨(some 7), none, false, .fa 1 1 (.t 1)⟩,
 ⟨(some 8), none, false, .ld none (.t 7)⟩,
 ⟨(some 9), none, false, .fa 1 1 (.t 3)⟩,
 ⟨none, none, true, .st 1 (.t 9) (.t 8)⟩])
 (.seq
 (.reg false [1, 2, 3] [⟨(some 10), none, false, .fa 2 2 (.t 1)⟩,
 ⟨(some 11), none, false, .ld none (.t 10)⟩,
 ⟨(some 12), none, false, .fa 2 2 (.t 3)⟩,
 ⟨none, none, true, .st 1 (.t 12) (.t 11)⟩])
 (.seq
 (.reg false [1, 2, 3] [⟨(some 13), none, false, .fa 3 3 (.t 1)⟩,
 ⟨(some 14), none, false, .ld none (.t 13)⟩,
 ⟨(some 15), none, false, .fa 3 3 (.t 3)⟩,
 ⟨none, none, true, .st 1 (.t 15) (.t 14)⟩])
 (.seq
 (.reg false [2, 3] [⟨(some 16), none, false, .fa 4 4 (.t 1)⟩,
 ⟨(some 17), none, false, .ld none (.t 16)⟩,
 ⟨(some 18), none, false, .fa 4 4 (.t 3)⟩,
 ⟨none, none, true, .st 1 (.t 18) (.t 17)⟩])
 (.seq
 (.reg false [2] [⟨(some 19), none, false, .ld (some 5) (.t 3)⟩,
 ⟨none, none, true, .st 5 (.t 2) (.t 19)⟩])
 .ret))))))))
theorem c8 : (Go.Proofs.Tryd.f8).body.bind (comp prog.P (1, (Go.Proofs.Tryd.f8).ntmps) lv8) = some m8 := by kernel_rfl
theorem r8 : resOK prog.P (Go.Proofs.Tryd.f8).results.toList = true := by kernel_rfl

/-- impl.YearLine -/
def lv9 : List (Nat × List Nat) := [(0, [1]), (1, [1, 6]), (2, [2, 3]), (3, [2, 3])]
def m9 : MC :=
  (.seq
 (.reg false [1] [⟨(some 1), none, true, .box (.t 0)⟩,
 ⟨(some 2), none, false, .mov (.k (.d (.str [])))⟩,
 ⟨(some 3), none, false, .mov (.k (.d (.bool false)))⟩])
 (.seq
 (.seq
 (.reg false [1, 6] [⟨(some 4), none, false, .ld (some 5) (.t 1)⟩,
 ⟨(some 5), none, true, .call 24 [(.t 4)]⟩,
 ⟨(some 6), none, false, .un .not (.t 5)⟩])
 (.cond (.t 6)
 (.seq
 (.reg false [2, 3] [⟨(some 2), none, false, .mov (.k (.d (.str [])))⟩,
 ⟨(some 3), none, false, .mov (.k (.d (.bool false)))⟩])
 .ret)
 .skip))
 (.seq
 (.reg false [2, 3] [⟨(some 7), none, false, .ld (some 5) (.t 1)⟩,
 ⟨(some 8), none, true, .call 28 [(.t 7)]⟩,
 ⟨(some 2), none, false, .mov (.t 8)⟩,
 ⟨(some 3), none, false, .mov (.k (.d (.bool true)))⟩])
 .ret)))
theorem c9 : (Go.Proofs.Tryd.f9).body.bind (comp prog.P (1, (Go.Proofs.Tryd.f9).ntmps) lv9) = some m9 := by kernel_rfl
theorem r9 : resOK prog.P (Go.Proofs.Tryd.f9).results.toList = true := by kernel_rfl

/-- laws.szYearRowS -/
def lv10 : List (Nat × List Nat) := [(0, [0, 1]), (1, [1]), (2, [1, 10]), (3, [4]), (4, [4])]
def m10 : MC :=
  (.seq
 (.reg false [0, 1] [⟨(some 4), none, false, .mov (.k (.d (.int .i64 0)))⟩])
 (.seq
 (.reg false [1] [⟨(some 5), none, false, .mov (.t 1)⟩,
 ⟨(some 6), none, false, .mov (.t 0)⟩,
 ⟨(some 7), none, false, .len false (.t 6)⟩,
 ⟨(some 8), none, false, .bin .sub (.t 5) (.t 7)⟩,
 ⟨(some 1), none, false, .mov (.t 8)⟩])
 (.seq
 (.seq
 (.reg false [1, 10] [⟨(some 9), none, false, .mov (.t 1)⟩,
 ⟨(some 10), none, false, .bin .lss (.t 9) (.k (.d (.int .i64 0)))⟩])
 (.cond (.t 10)
 (.seq
 (.reg false [4] [⟨(some 4), none, false, .mov (.k (.d (.int .i64 (-1))))⟩])
 .ret)
 .skip))
 (.seq
 (.reg false [4] [⟨(some 11), none, false, .mov (.t 1)⟩,
 ⟨(some 4), none, false, .mov (.t 11)⟩])
 .ret))))
theorem c10 : (Go.Proofs.Tryd.f10).body.bind (comp prog.P (1, (Go.Proofs.Tryd.f10).ntmps) lv10) = some m10 := by kernel_rfl
theorem r10 : resOK prog.P (Go.Proofs.Tryd.f10).results.toList = true := by kernel_rfl

/-- spec.YearReport -/
def lv11 : List (Nat × List Nat) := [(0, [0, 1]), (1, [0, 1, 12]), (2, [4, 5]), (3, [0, 1, 6]), (4, [1, 6, 7]), (5, [1, 6, 7, 8]), (6, [1, 6, 7, 8, 22]), (7, [1, 6, 7, 8]), (8, [1, 6, 7, 8]), (9, [4, 5])]
def m11 : MC :=
  (.seq
 (.reg false [0, 1] [⟨(some 4), none, false, .mov (.k (.d (.str [])))⟩,
 ⟨(some 5), none, false, .mov (.k (.d (.bool false)))⟩])
 (.seq
 (.seq
 (.reg false [0, 1, 12] [⟨(some 9), none, false, .mov (.t 0)⟩,
 ⟨(some 10), none, false, .mov (.t 1)⟩,
 ⟨(some 11), none, true, .call 29 [(.t 9), (.t 10)]⟩,
 ⟨(some 12), none, false, .un .not (.t 11)⟩])
 (.cond (.t 12)
 (.seq
 (.reg false [4, 5] [⟨(some 4), none, false, .mov (.k (.d (.str [])))⟩,
 ⟨(some 5), none, false, .mov (.k (.d (.bool false)))⟩])
 .ret)
 .skip))
 (.seq
 (.reg false [0, 1, 6] [⟨(some 13), none, false, .mov (.t 0)⟩,
 ⟨(some 14), none, true, .call 30 [(.t 13)]⟩,
 ⟨(some 15), none, false, .bin .add (.k (.d (.str [115, 116, 111, 99, 107, 32]))) (.t 14)⟩,
 ⟨(some 6), none, false, .mov (.t 15)⟩])
 (.seq
 (.reg false [1, 6, 7] [⟨(some 16), none, false, .mov (.t 0)⟩,
 ⟨(some 17), none, false, .mov (.t 1)⟩,
 ⟨(some 18), none, true, .call 31 [(.t 16), (.t 17)]⟩,
 ⟨(some 7), none, false, .mov (.t 18)⟩])
 (.seq
 (.seq
 (.reg false [1, 6, 7, 8] [⟨(some 8), none, false, .mov (.k (.d (.int .i64 0)))⟩])
 (.block 0
 (.loop
 (.seq
 (.seq
 (.reg false [1, 6, 7, 8, 22] [⟨(some 19), none, false, .mov (.t 8)⟩,
 ⟨(some 20), none, false, .mov (.t 1)⟩,
 ⟨(some 21), none, false, .len false (.t 20)⟩,
 ⟨(some 22), none, false, .bin .lss (.t 19) (.t 21)⟩])
 (.cond (.t 22)
 .skip
 (.exit 0)))
 (.seq
 (.block 1
 (.reg true [1, 6, 7, 8] [⟨(some 25), none, false, .mov (.t 6)⟩,
 ⟨(some 26), none, false, .bin .add (.t 25) (.k (.d (.str [10])))⟩,
 ⟨(some 27), none, false, .mov (.t 1)⟩,
 ⟨(some 28), none, false, .mov (.t 8)⟩,
 ⟨(some 29), none, false, .ia 5 (.t 27) (.t 28)⟩,
 ⟨(some 30), none, false, .ld (some 5) (.t 29)⟩,
 ⟨(some 31), none, false, .callP 27 [(.t 30)]⟩,
 ⟨(some 32), none, false, .bin .add (.t 26) (.t 31)⟩,
 ⟨(some 33), none, false, .bin .add (.t 32) (.k (.d (.str [32, 61, 32])))⟩,
 ⟨(some 34), none, false, .mov (.t 7)⟩,
 ⟨(some 35), none, false, .mov (.t 8)⟩,
 ⟨(some 36), none, false, .ia 1 (.t 34) (.t 35)⟩,
 ⟨(some 37), none, false, .ld none (.t 36)⟩,
 ⟨(some 38), none, false, .callP 30 [(.t 37)]⟩,
 ⟨(some 39), none, false, .bin .add (.t 33) (.t 38)⟩,
 ⟨(some 6), none, false, .mov (.t 39)⟩]))
 (.reg false [1, 6, 7, 8] [⟨(some 23), none, false, .mov (.t 8)⟩,
 ⟨(some 24), none, false, .bin .add (.t 23) (.k (.d (.int .i64 1)))⟩,
 ⟨(some 8), none, false, .mov (.t 24)⟩]))))))
 (.seq
 (.reg false [4, 5] [⟨(some 40), none, false, .mov (.t 6)⟩,
 ⟨(some 4), none, false, .mov (.t 40)⟩,
 ⟨(some 5), none, false, .mov (.k (.d (.bool true)))⟩])
 .ret))))))
theorem c11 : (Go.Proofs.Tryd.f11).body.bind (comp prog.P (2, (Go.Proofs.Tryd.f11).ntmps) lv11) = some m11 := by kernel_rfl
theorem r11 : resOK prog.P (Go.Proofs.Tryd.f11).results.toList = true := by kernel_rfl

/-- laws.toYearRowS -/
def lv12 : List (Nat × List Nat) := [(0, [0]), (1, [0, 3]), (2, [0, 3, 4]), (3, [0, 3, 4, 11]), (4, [0, 3, 4]), (5, [0, 3, 4]), (6, [2])]
def m12 : MC :=
  (.seq
 (.reg false [0] [⟨(some 2), none, false, .mov (.k .nil)⟩])
 (.seq
 (.reg false [0, 3] [⟨(some 5), none, false, .mov (.t 0)⟩,
 ⟨(some 6), none, false, .len false (.t 5)⟩,
 ⟨(some 7), none, true, .mk 5 40 (.st (.cons (.int .i64 0) (.cons (.int .i64 0) (.cons (.int .i64 0) (.cons (.int .i64 0) (.cons (.int .i64 0) .nil)))))) (.t 6)⟩,
 ⟨(some 3), none, false, .mov (.t 7)⟩])
 (.seq
 (.seq
 (.reg false [0, 3, 4] [⟨(some 4), none, false, .mov (.k (.d (.int .i64 0)))⟩])
 (.block 0
 (.loop
 (.seq
 (.seq
 (.reg false [0, 3, 4, 11] [⟨(some 8), none, false, .mov (.t 4)⟩,
 ⟨(some 9), none, false, .mov (.t 0)⟩,
 ⟨(some 10), none, false, .len false (.t 9)⟩,
 ⟨(some 11), none, false, .bin .lss (.t 8) (.t 10)⟩])
 (.cond (.t 11)
 .skip
 (.exit 0)))
 (.seq
 (.block 1
 (.reg false [0, 3, 4] [⟨(some 14), none, false, .mov (.t 3)⟩,
 ⟨(some 15), none, false, .mov (.t 4)⟩,
 ⟨(some 16), none, false, .mov (.t 0)⟩,
 ⟨(some 17), none, false, .mov (.t 4)⟩,
 ⟨(some 18), none, false, .ia 5 (.t 16) (.t 17)⟩,
 ⟨(some 19), none, false, .ld (some 5) (.t 18)⟩,
 ⟨(some 20), none, true, .call 8 [(.t 19)]⟩,
 ⟨(some 21), none, false, .ia 5 (.t 14) (.t 15)⟩,
 ⟨none, none, true, .st 5 (.t 21) (.t 20)⟩]))
 (.reg false [0, 3, 4] [⟨(some 12), none, false, .mov (.t 4)⟩,
 ⟨(some 13), none, false, .bin .add (.t 12) (.k (.d (.int .i64 1)))⟩,
 ⟨(some 4), none, false, .mov (.t 13)⟩]))))))
 (.seq
 (.reg false [2] [⟨(some 22), none, false, .mov (.t 3)⟩,
 ⟨(some 2), none, false, .mov (.t 22)⟩])
 .ret))))
theorem c12 : (Go.Proofs.Tryd.f12).body.bind (comp prog.P (1, (Go.Proofs.Tryd.f12).ntmps) lv12) = some m12 := by kernel_rfl
theorem r12 : resOK prog.P (Go.Proofs.Tryd.f12).results.toList = true := by kernel_rfl

/-- impl.YearReport -/
def lv13 : List (Nat × List Nat) := [(0, [0, 1]), (1, [0, 1, 6, 7]), (2, [0, 1, 6, 18]), (3, [4, 5]), (4, [1, 6, 8]), (5, [6, 8, 22, 23, 24]), (6, [6, 8, 22, 23, 24, 25]), (7, [6, 8, 9, 10, 22, 23, 24]), (8, [6, 8, 22, 23, 24]), (9, [6, 8, 22, 23, 24]), (10, [4, 5])]
def m13 : MC :=
  (.seq
 (.reg false [0, 1] [⟨(some 4), none, false, .mov (.k (.d (.str [])))⟩,
 ⟨(some 5), none, false, .mov (.k (.d (.bool false)))⟩])
 (.seq
 (.reg false [0, 1, 6, 7] [⟨(some 12), none, false, .mov (.t 0)⟩,
 ⟨(some 13), none, false, .mov (.t 1)⟩,
 ⟨(some 14), none, true, .call 32 [(.t 12), (.t 13)]⟩,
 ⟨(some 11), none, false, .mov (.t 14)⟩,
 ⟨(some 15), none, false, .ext (.t 11) 0⟩,
 ⟨(some 16), none, false, .ext (.t 11) 1⟩,
 ⟨(some 6), none, false, .mov (.t 15)⟩,
 ⟨(some 7), none, false, .mov (.t 16)⟩])
 (.seq
 (.seq
 (.reg false [0, 1, 6, 18] [⟨(some 17), none, false, .mov (.t 7)⟩,
 ⟨(some 18), none, false, .un .not (.t 17)⟩])
 (.cond (.t 18)
 (.seq
 (.reg false [4, 5] [⟨(some 4), none, false, .mov (.k (.d (.str [])))⟩,
 ⟨(some 5), none, false, .mov (.k (.d (.bool false)))⟩])
 .ret)
 .skip))
 (.seq
 (.reg false [1, 6, 8] [⟨(some 19), none, false, .mov (.t 0)⟩,
 ⟨(some 20), none, true, .call 33 [(.t 19)]⟩,
 ⟨(some 21), none, false, .bin .add (.k (.d (.str [115, 116, 111, 99, 107, 32]))) (.t 20)⟩,
 ⟨(some 8), none, false, .mov (.t 21)⟩])
 (.seq
 (.seq
 (.reg false [6, 8, 22, 23, 24] [⟨(some 22), none, false, .mov (.t 1)⟩,
 ⟨(some 23), none, false, .len false (.t 22)⟩,
 ⟨(some 24), none, false, .mov (.k (.d (.int .i64 0)))⟩])
 (.block 0
 (.loop
 (.seq
 (.reg false [6, 8, 22, 23, 24, 25] [⟨(some 25), none, false, .bin .lss (.t 24) (.t 23)⟩])
 (.seq
 (.cond (.t 25)
 .skip
 (.exit 0))
 (.seq
 (.block 1
 (.seq
 (.reg false [6, 8, 9, 10, 22, 23, 24] [⟨(some 26), none, false, .mov (.t 24)⟩,
 ⟨(some 27), none, false, .ia 5 (.t 22) (.t 24)⟩,
 ⟨(some 28), none, false, .ld (some 5) (.t 27)⟩,
 ⟨(some 10), none, true, .alloc (.st (.cons (.int .i64 0) (.cons (.int .i64 0) (.cons (.int .i64 0) (.cons (.int .i64 0) (.cons (.int .i64 0) .nil))))))⟩,
 ⟨(some 9), none, false, .mov (.t 26)⟩,
 ⟨none, none, true, .st 5 (.t 10) (.t 28)⟩])
 (.reg true [6, 8, 22, 23, 24] [⟨(some 29), none, false, .mov (.t 8)⟩,
 ⟨(some 30), none, false, .ld (some 5) (.t 10)⟩,
 ⟨(some 31), none, false, .callP 28 [(.t 30)]⟩,
 ⟨(some 32), none, false, .bin .add (.k (.d (.str [10]))) (.t 31)⟩,
 ⟨(some 33), none, false, .bin .add (.t 32) (.k (.d (.str [32, 61, 32])))⟩,
 ⟨(some 34), none, false, .mov (.t 6)⟩,
 ⟨(some 35), none, false, .mov (.t 9)⟩,
 ⟨(some 36), none, false, .ia 1 (.t 34) (.t 35)⟩,
 ⟨(some 37), none, false, .ld none (.t 36)⟩,
 ⟨(some 38), none, false, .callP 33 [(.t 37)]⟩,
 ⟨(some 39), none, false, .bin .add (.t 33) (.t 38)⟩,
 ⟨(some 40), none, false, .bin .add (.t 29) (.t 39)⟩,
 ⟨(some 8), none, false, .mov (.t 40)⟩])))
 (.reg false [6, 8, 22, 23, 24] [⟨(some 41), none, false, .bin .add (.t 24) (.k (.d (.int .i64 1)))⟩,
 ⟨(some 24), none, false, .mov (.t 41)⟩])))))))
 (.seq
 (.reg false [4, 5] [⟨(some 42), none, false, .mov (.t 8)⟩,
 ⟨(some 4), none, false, .mov (.t 42)⟩,
 ⟨(some 5), none, false, .mov (.k (.d (.bool true)))⟩])
 .ret))))))
theorem c13 : (Go.Proofs.Tryd.f13).body.bind (comp prog.P (2, (Go.Proofs.Tryd.f13).ntmps) lv13) = some m13 := by kernel_rfl
theorem r13 : resOK prog.P (Go.Proofs.Tryd.f13).results.toList = true := by kernel_rfl

/-- laws.eqYearRowS -/
def lv14 : List (Nat × List Nat) := [(0, [0, 1]), (1, [0, 1, 10]), (2, [4]), (3, [0, 1, 5]), (4, [0, 1, 5, 14]), (5, [0, 1, 5]), (6, [0, 1, 5, 26]), (7, [4]), (8, [4])]
def m14 : MC :=
  (.seq
 (.reg false [0, 1] [⟨(some 4), none, false, .mov (.k (.d (.bool false)))⟩])
 (.seq
 (.seq
 (.reg false [0, 1, 10] [⟨(some 6), none, false, .mov (.t 0)⟩,
 ⟨(some 7), none, false, .len false (.t 6)⟩,
 ⟨(some 8), none, false, .mov (.t 1)⟩,
 ⟨(some 9), none, false, .len false (.t 8)⟩,
 ⟨(some 10), none, false, .bin .neq (.t 7) (.t 9)⟩])
 (.cond (.t 10)
 (.seq
 (.reg false [4] [⟨(some 4), none, false, .mov (.k (.d (.bool false)))⟩])
 .ret)
 .skip))
 (.seq
 (.seq
 (.reg false [0, 1, 5] [⟨(some 5), none, false, .mov (.k (.d (.int .i64 0)))⟩])
 (.block 0
 (.loop
 (.seq
 (.seq
 (.reg false [0, 1, 5, 14] [⟨(some 11), none, false, .mov (.t 5)⟩,
 ⟨(some 12), none, false, .mov (.t 0)⟩,
 ⟨(some 13), none, false, .len false (.t 12)⟩,
 ⟨(some 14), none, false, .bin .lss (.t 11) (.t 13)⟩])
 (.cond (.t 14)
 .skip
 (.exit 0)))
 (.seq
 (.block 1
 (.seq
 (.reg true [0, 1, 5, 26] [⟨(some 17), none, false, .mov (.t 0)⟩,
 ⟨(some 18), none, false, .mov (.t 5)⟩,
 ⟨(some 19), none, false, .ia 5 (.t 17) (.t 18)⟩,
 ⟨(some 20), none, false, .ld (some 5) (.t 19)⟩,
 ⟨(some 21), none, false, .mov (.t 1)⟩,
 ⟨(some 22), none, false, .mov (.t 5)⟩,
 ⟨(some 23), none, false, .ia 5 (.t 21) (.t 22)⟩,
 ⟨(some 24), none, false, .ld (some 5) (.t 23)⟩,
 ⟨(some 25), none, false, .callP 34 [(.t 20), (.t 24)]⟩,
 ⟨(some 26), none, false, .un .not (.t 25)⟩])
 (.cond (.t 26)
 (.seq
 (.reg false [4] [⟨(some 4), none, false, .mov (.k (.d (.bool false)))⟩])
 .ret)
 .skip)))
 (.reg false [0, 1, 5] [⟨(some 15), none, false, .mov (.t 5)⟩,
 ⟨(some 16), none, false, .bin .add (.t 15) (.k (.d (.int .i64 1)))⟩,
 ⟨(some 5), none, false, .mov (.t 16)⟩]))))))
 (.seq
 (.reg false [4] [⟨(some 4), none, false, .mov (.k (.d (.bool true)))⟩])
 .ret))))
theorem c14 : (Go.Proofs.Tryd.f14).body.bind (comp prog.P (2, (Go.Proofs.Tryd.f14).ntmps) lv14) = some m14 := by kernel_rfl
theorem r14 : resOK prog.P (Go.Proofs.Tryd.f14).results.toList = true := by kernel_rfl

/-- impl.AreYearRows -/
def lv22 : List (Nat × List Nat) := [(0, [0, 1]), (1, [6]), (2, [4])]
def m22 : MC :=
  (.seq
 (.reg false [0, 1] [⟨(some 4), none, false, .mov (.k (.d (.bool false)))⟩])
 (.seq
 (.reg false [6] [⟨(some 8), none, false, .mov (.t 0)⟩,
 ⟨(some 9), none, false, .mov (.t 1)⟩,
 ⟨(some 10), none, true, .call 32 [(.t 8), (.t 9)]⟩,
 ⟨(some 7), none, false, .mov (.t 10)⟩,
 ⟨(some 11), none, false, .ext (.t 7) 0⟩,
 ⟨(some 12), none, false, .ext (.t 7) 1⟩,
 ⟨(some 5), none, false, .mov (.t 11)⟩,
 ⟨(some 6), none, false, .mov (.t 12)⟩])
 (.seq
 (.reg false [4] [⟨(some 13), none, false, .mov (.t 6)⟩,
 ⟨(some 4), none, false, .mov (.t 13)⟩])
 .ret)))
theorem c22 : (Go.Proofs.Tryd.f22).body.bind (comp prog.P (2, (Go.Proofs.Tryd.f22).ntmps) lv22) = some m22 := by kernel_rfl
theorem r22 : resOK prog.P (Go.Proofs.Tryd.f22).results.toList = true := by kernel_rfl

/-- impl.IsYearRow -/
def lv24 : List (Nat × List Nat) := [(0, [1]), (1, [2])]
def m24 : MC :=
  (.seq
 (.reg false [1] [⟨(some 1), none, true, .box (.t 0)⟩,
 ⟨(some 2), none, false, .mov (.k (.d (.bool false)))⟩])
 (.seq
 (.reg false [2] [⟨(some 3), none, false, .fa 0 0 (.t 1)⟩,
 ⟨(some 4), none, false, .ld none (.t 3)⟩,
 ⟨(some 5), none, true, .call 44 [(.t 4), (.k (.d (.int .i64 1900))), (.k (.d (.int .i64 2200)))]⟩,
 ⟨(some 6), none, false, .mov (.t 5)⟩,
 ⟨(some 7), (some (6, true)), false, .fa 1 1 (.t 1)⟩,
 ⟨(some 8), (some (6, true)), false, .ld none (.t 7)⟩,
 ⟨(some 9), (some (6, true)), true, .call 45 [(.t 8)]⟩,
 ⟨(some 10), none, false, .pick (.t 6) (.t 9) (.k (.d (.bool false)))⟩,
 ⟨(some 11), none, false, .mov (.t 10)⟩,
 ⟨(some 12), (some (11, true)), false, .fa 2 2 (.t 1)⟩,
 ⟨(some 13), (some (11, true)), false, .ld none (.t 12)⟩,
 ⟨(some 14), (some (11, true)), true, .call 45 [(.t 13)]⟩,
 ⟨(some 15), none, false, .pick (.t 11) (.t 14) (.k (.d (.bool false)))⟩,
 ⟨(some 16), none, false, .mov (.t 15)⟩,
 ⟨(some 17), (some (16, true)), false, .fa 3 3 (.t 1)⟩,
 ⟨(some 18), (some (16, true)), false, .ld none (.t 17)⟩,
 ⟨(some 19), (some (16, true)), true, .call 45 [(.t 18)]⟩,
 ⟨(some 20), none, false, .pick (.t 16) (.t 19) (.k (.d (.bool false)))⟩,
 ⟨(some 21), none, false, .mov (.t 20)⟩,
 ⟨(some 22), (some (21, true)), false, .fa 4 4 (.t 1)⟩,
 ⟨(some 23), (some (21, true)), false, .ld none (.t 22)⟩,
 ⟨(some 24), (some (21, true)), true, .call 45 [(.t 23)]⟩,
 ⟨(some 25), none, false, .pick (.t 21) (.t 24) (.k (.d (.bool false)))⟩,
 ⟨(some 2), none, false, .mov (.t 25)⟩])
 .ret))
theorem c24 : (Go.Proofs.Tryd.f24).body.bind (comp prog.P (1, (Go.Proofs.Tryd.f24).ntmps) lv24) = some m24 := by kernel_rfl
theorem r24 : resOK prog.P (Go.Proofs.Tryd.f24).results.toList = true := by kernel_rfl

/-- spec.l26One -/
def lv26 : List (Nat × List Nat) := [(0, [1]), (1, [2])]
def m26 : MC :=
  (.seq
 (.reg false [1] [⟨(some 1), none, true, .box (.t 0)⟩,
 ⟨(some 2), none, false, .mov (.k (.d (.bool false)))⟩])
 (.seq
 (.reg false [2] [⟨(some 3), none, false, .fa 0 0 (.t 1)⟩,
 ⟨(some 4), none, false, .ld none (.t 3)⟩,
 ⟨(some 5), none, true, .call 50 [(.t 4), (.k (.d (.int .i64 1900))), (.k (.d (.int .i64 2200)))]⟩,
 ⟨(some 6), none, false, .mov (.t 5)⟩,
 ⟨(some 7), (some (6, true)), false, .fa 1 1 (.t 1)⟩,
 ⟨(some 8), (some (6, true)), false, .ld none (.t 7)⟩,
 ⟨(some 9), (some (6, true)), true, .call 51 [(.t 8)]⟩,
 ⟨(some 10), none, false, .pick (.t 6) (.t 9) (.k (.d (.bool false)))⟩,
 ⟨(some 11), none, false, .mov (.t 10)⟩,
 ⟨(some 12), (some (11, true)), false, .fa 2 2 (.t 1)⟩,
 ⟨(some 13), (some (11, true)), false, .ld none (.t 12)⟩,
 ⟨(some 14), (some (11, true)), true, .call 51 [(.t 13)]⟩,
 ⟨(some 15), none, false, .pick (.t 11) (.t 14) (.k (.d (.bool false)))⟩,
 ⟨(some 16), none, false, .mov (.t 15)⟩,
 ⟨(some 17), (some (16, true)), false, .fa 3 3 (.t 1)⟩,
 ⟨(some 18), (some (16, true)), false, .ld none (.t 17)⟩,
 ⟨(some 19), (some (16, true)), true, .call 51 [(.t 18)]⟩,
 ⟨(some 20), none, false, .pick (.t 16) (.t 19) (.k (.d (.bool false)))⟩,
 ⟨(some 21), none, false, .mov (.t 20)⟩,
 ⟨(some 22), (some (21, true)), false, .fa 4 4 (.t 1)⟩,
 ⟨(some 23), (some (21, true)), false, .ld none (.t 22)⟩,
 ⟨(some 24), (some (21, true)), true, .call 51 [(.t 23)]⟩,
 ⟨(some 25), none, false, .pick (.t 21) (.t 24) (.k (.d (.bool false)))⟩,
 ⟨(some 2), none, false, .mov (.t 25)⟩])
 .ret))
theorem c26 : (Go.Proofs.Tryd.f26).body.bind (comp prog.P (1, (Go.Proofs.Tryd.f26).ntmps) lv26) = some m26 := by kernel_rfl
theorem r26 : resOK prog.P (Go.Proofs.Tryd.f26).results.toList = true := by kernel_rfl

/-- spec.l26Line -/
def lv27 : List (Nat × List Nat) := [(0, [1]), (1, [1, 3]), (2, [1, 3, 19]), (3, [3]), (4, [2])]
def m27 : MC :=
  (.seq
 (.reg false [1] [⟨(some 1), none, true, .box (.t 0)⟩,
 ⟨(some 2), none, false, .mov (.k (.d (.str [])))⟩])
 (.seq
 (.reg true [1, 3] [⟨(some 4), none, false, .fa 0 0 (.t 1)⟩,
 ⟨(some 5), none, false, .ld none (.t 4)⟩,
 ⟨(some 6), none, false, .callP 30 [(.t 5)]⟩,
 ⟨(some 7), none, false, .bin .add (.t 6) (.k (.d (.str [58, 32, 43])))⟩,
 ⟨(some 8), none, false, .fa 1 1 (.t 1)⟩,
 ⟨(some 9), none, false, .ld none (.t 8)⟩,
 ⟨(some 10), none, false, .callP 30 [(.t 9)]⟩,
 ⟨(some 11), none, false, .bin .add (.t 7) (.t 10)⟩,
 ⟨(some 12), none, false, .bin .add (.t 11) (.k (.d (.str [32, 45])))⟩,
 ⟨(some 13), none, false, .ld (some 5) (.t 1)⟩,
 ⟨(some 14), none, false, .callP 52 [(.t 13)]⟩,
 ⟨(some 15), none, false, .callP 30 [(.t 14)]⟩,
 ⟨(some 16), none, false, .bin .add (.t 12) (.t 15)⟩,
 ⟨(some 3), none, false, .mov (.t 16)⟩])
 (.seq
 (.seq
 (.reg false [1, 3, 19] [⟨(some 17), none, false, .fa 3 3 (.t 1)⟩,
 ⟨(some 18), none, false, .ld none (.t 17)⟩,
 ⟨(some 19), none, false, .bin .gtr (.t 18) (.k (.d (.int .i64 0)))⟩])
 (.cond (.t 19)
 (.reg false [3] [⟨(some 20), none, false, .mov (.t 3)⟩,
 ⟨(some 21), none, false, .bin .add (.t 20) (.k (.d (.str [32, 40])))⟩,
 ⟨(some 22), none, false, .fa 3 3 (.t 1)⟩,
 ⟨(some 23), none, false, .ld none (.t 22)⟩,
 ⟨(some 24), none, true, .call 30 [(.t 23)]⟩,
 ⟨(some 25), none, false, .bin .add (.t 21) (.t 24)⟩,
 ⟨(some 26), none, false, .bin .add (.t 25) (.k (.d (.str [32, 100, 101, 115, 116, 114, 111, 121, 101, 100, 41])))⟩,
 ⟨(some 3), none, false, .mov (.t 26)⟩])
 .skip))
 (.seq
 (.reg false [2] [⟨(some 27), none, false, .mov (.t 3)⟩,
 ⟨(some 2), none, false, .mov (.t 27)⟩])
 .ret))))
theorem c27 : (Go.Proofs.Tryd.f27).body.bind (comp prog.P (1, (Go.Proofs.Tryd.f27).ntmps) lv27) = some m27 := by kernel_rfl
theorem r27 : resOK prog.P (Go.Proofs.Tryd.f27).results.toList = true := by kernel_rfl

/-- impl.yearLine -/
def lv28 : List (Nat × List Nat) := [(0, [1]), (1, [1, 3]), (2, [1, 3, 19]), (3, [3]), (4, [2])]
def m28 : MC :=
  (.seq
 (.reg false [1] [⟨(some 1), none, true, .box (.t 0)⟩,
 ⟨(some 2), none, false, .mov (.k (.d (.str [])))⟩])
 (.seq
 (.reg true [1, 3] [⟨(some 4), none, false, .fa 0 0 (.t 1)⟩,
 ⟨(some 5), none, false, .ld none (.t 4)⟩,
 ⟨(some 6), none, false, .callP 33 [(.t 5)]⟩,
 ⟨(some 7), none, false, .bin .add (.t 6) (.k (.d (.str [58, 32, 43])))⟩,
 ⟨(some 8), none, false, .fa 1 1 (.t 1)⟩,
 ⟨(some 9), none, false, .ld none (.t 8)⟩,
 ⟨(some 10), none, false, .callP 33 [(.t 9)]⟩,
 ⟨(some 11), none, false, .bin .add (.t 7) (.t 10)⟩,
 ⟨(some 12), none, false, .bin .add (.t 11) (.k (.d (.str [32, 45])))⟩,
 ⟨(some 13), none, false, .ld (some 5) (.t 1)⟩,
 ⟨(some 14), none, false, .callP 41 [(.t 13)]⟩,
 ⟨(some 15), none, false, .callP 33 [(.t 14)]⟩,
 ⟨(some 16), none, false, .bin .add (.t 12) (.t 15)⟩,
 ⟨(some 3), none, false, .mov (.t 16)⟩])
 (.seq
 (.seq
 (.reg false [1, 3, 19] [⟨(some 17), none, false, .fa 3 3 (.t 1)⟩,
 ⟨(some 18), none, false, .ld none (.t 17)⟩,
 ⟨(some 19), none, false, .bin .gtr (.t 18) (.k (.d (.int .i64 0)))⟩])
 (.cond (.t 19)
 (.reg false [3] [⟨(some 20), none, false, .mov (.t 3)⟩,
 ⟨(some 21), none, false, .fa 3 3 (.t 1)⟩,
 ⟨(some 22), none, false, .ld none (.t 21)⟩,
 ⟨(some 23), none, true, .call 33 [(.t 22)]⟩,
 ⟨(some 24), none, false, .bin .add (.k (.d (.str [32, 40]))) (.t 23)⟩,
 ⟨(some 25), none, false, .bin .add (.t 24) (.k (.d (.str [32, 100, 101, 115, 116, 114, 111, 121, 101, 100, 41])))⟩,
 ⟨(some 26), none, false, .bin .add (.t 20) (.t 25)⟩,
 ⟨(some 3), none, false, .mov (.t 26)⟩])
 .skip))
 (.seq
 (.reg false [2] [⟨(some 27), none, false, .mov (.t 3)⟩,
 ⟨(some 2), none, false, .mov (.t 27)⟩])
 .ret))))
theorem c28 : (Go.Proofs.Tryd.f28).body.bind (comp prog.P (1, (Go.Proofs.Tryd.f28).ntmps) lv28) = some m28 := by kernel_rfl
theorem r28 : resOK prog.P (Go.Proofs.Tryd.f28).results.toList = true := by kernel_rfl

/-- spec.l26Good -/
def lv29 : List (Nat × List Nat) := [(0, [0, 1]), (1, [0, 1, 5]), (2, [0, 1, 5, 6]), (3, [0, 1, 5, 6, 11]), (4, [0, 1, 5, 6]), (5, [0, 1, 5, 6, 37]), (6, [4]), (7, [0, 1, 5, 6]), (8, [0, 1, 5, 6, 52]), (9, [4]), (10, [4])]
def m29 : MC :=
  (.seq
 (.reg false [0, 1] [⟨(some 4), none, false, .mov (.k (.d (.bool false)))⟩])
 (.seq
 (.reg false [0, 1, 5] [⟨(some 7), none, false, .mov (.t 0)⟩,
 ⟨(some 5), none, false, .mov (.t 7)⟩])
 (.seq
 (.seq
 (.reg false [0, 1, 5, 6] [⟨(some 6), none, false, .mov (.k (.d (.int .i64 0)))⟩])
 (.block 0
 (.loop
 (.seq
 (.seq
 (.reg false [0, 1, 5, 6, 11] [⟨(some 8), none, false, .mov (.t 6)⟩,
 ⟨(some 9), none, false, .mov (.t 1)⟩,
 ⟨(some 10), none, false, .len false (.t 9)⟩,
 ⟨(some 11), none, false, .bin .lss (.t 8) (.t 10)⟩])
 (.cond (.t 11)
 .skip
 (.exit 0)))
 (.seq
 (.block 1
 (.seq
 (.seq
 (.reg true [0, 1, 5, 6, 37] [⟨(some 14), none, false, .mov (.t 1)⟩,
 ⟨(some 15), none, false, .mov (.t 6)⟩,
 ⟨(some 16), none, false, .ia 5 (.t 14) (.t 15)⟩,
 ⟨(some 17), none, false, .ld (some 5) (.t 16)⟩,
 ⟨(some 18), none, false, .callP 26 [(.t 17)]⟩,
 ⟨(some 19), none, false, .un .not (.t 18)⟩,
 ⟨(some 20), none, false, .mov (.t 19)⟩,
 ⟨(some 21), (some (20, false)), false, .mov (.t 6)⟩,
 ⟨(some 22), (some (20, false)), false, .bin .gtr (.t 21) (.k (.d (.int .i64 0)))⟩,
 ⟨(some 23), (some (20, false)), false, .mov (.t 22)⟩,
 ⟨(some 24), (some (23, true)), false, .mov (.t 1)⟩,
 ⟨(some 25), (some (23, true)), false, .mov (.t 6)⟩,
 ⟨(some 26), (some (23, true)), false, .bin .sub (.t 25) (.k (.d (.int .i64 1)))⟩,
 ⟨(some 27), (some (23, true)), false, .ia 5 (.t 24) (.t 26)⟩,
 ⟨(some 28), (some (23, true)), false, .fa 0 0 (.t 27)⟩,
 ⟨(some 29), (some (23, true)), false, .ld none (.t 28)⟩,
 ⟨(some 30), (some (23, true)), false, .mov (.t 1)⟩,
 ⟨(some 31), (some (23, true)), false, .mov (.t 6)⟩,
 ⟨(some 32), (some (23, true)), false, .ia 5 (.t 30) (.t 31)⟩,
 ⟨(some 33), (some (23, true)), false, .fa 0 0 (.t 32)⟩,
 ⟨(some 34), (some (23, true)), false, .ld none (.t 33)⟩,
 ⟨(some 35), (some (23, true)), false, .bin .geq (.t 29) (.t 34)⟩,
 ⟨(some 36), (some (20, false)), false, .pick (.t 23) (.t 35) (.k (.d (.bool false)))⟩,
 ⟨(some 37), none, false, .pick (.t 20) (.k (.d (.bool true))) (.t 36)⟩])
 (.cond (.t 37)
 (.seq
 (.reg false [4] [⟨(some 4), none, false, .mov (.k (.d (.bool false)))⟩])
 .ret)
 .skip))
 (.seq
 (.reg true [0, 1, 5, 6] [⟨(some 38), none, false, .mov (.t 5)⟩,
 ⟨(some 39), none, false, .mov (.t 1)⟩,
 ⟨(some 40), none, false, .mov (.t 6)⟩,
 ⟨(some 41), none, false, .ia 5 (.t 39) (.t 40)⟩,
 ⟨(some 42), none, false, .fa 1 1 (.t 41)⟩,
 ⟨(some 43), none, false, .ld none (.t 42)⟩,
 ⟨(some 44), none, false, .bin .add (.t 38) (.t 43)⟩,
 ⟨(some 45), none, false, .mov (.t 1)⟩,
 ⟨(some 46), none, false, .mov (.t 6)⟩,
 ⟨(some 47), none, false, .ia 5 (.t 45) (.t 46)⟩,
 ⟨(some 48), none, false, .ld (some 5) (.t 47)⟩,
 ⟨(some 49), none, false, .callP 52 [(.t 48)]⟩,
 ⟨(some 50), none, false, .bin .sub (.t 44) (.t 49)⟩,
 ⟨(some 5), none, false, .mov (.t 50)⟩])
 (.seq
 (.reg false [0, 1, 5, 6, 52] [⟨(some 51), none, false, .mov (.t 5)⟩,
 ⟨(some 52), none, false, .bin .lss (.t 51) (.k (.d (.int .i64 0)))⟩])
 (.cond (.t 52)
 (.seq
 (.reg false [4] [⟨(some 4), none, false, .mov (.k (.d (.bool false)))⟩])
 .ret)
 .skip)))))
 (.reg false [0, 1, 5, 6] [⟨(some 12), none, false, .mov (.t 6)⟩,
 ⟨(some 13), none, false, .bin .add (.t 12) (.k (.d (.int .i64 1)))⟩,
 ⟨(some 6), none, false, .mov (.t 13)⟩]))))))
 (.seq
 (.reg false [4] [⟨(some 53), none, false, .mov (.t 0)⟩,
 ⟨(some 54), none, true, .call 51 [(.t 53)]⟩,
 ⟨(some 55), none, false, .mov (.t 54)⟩,
 ⟨(some 56), (some (55, true)), false, .mov (.t 1)⟩,
 ⟨(some 57), (some (55, true)), false, .len false (.t 56)⟩,
 ⟨(some 58), (some (55, true)), false, .bin .leq (.t 57) (.k (.d (.int .i64 10)))⟩,
 ⟨(some 59), none, false, .pick (.t 55) (.t 58) (.k (.d (.bool false)))⟩,
 ⟨(some 4), none, false, .mov (.t 59)⟩])
 .ret))))
theorem c29 : (Go.Proofs.Tryd.f29).body.bind (comp prog.P (2, (Go.Proofs.Tryd.f29).ntmps) lv29) = some m29 := by kernel_rfl
theorem r29 : resOK prog.P (Go.Proofs.Tryd.f29).results.toList = true := by kernel_rfl

/-- spec.l1Num -/
def lv30 : List (Nat × List Nat) := [(0, [0]), (1, [0, 4]), (2, [2]), (3, [0, 10]), (4, [2]), (5, [2])]
def m30 : MC :=
  (.seq
 (.reg false [0] [⟨(some 2), none, false, .mov (.k (.d (.str [])))⟩])
 (.seq
 (.seq
 (.reg false [0, 4] [⟨(some 3), none, false, .mov (.t 0)⟩,
 ⟨(some 4), none, false, .bin .lss (.t 3) (.k (.d (.int .i64 0)))⟩])
 (.cond (.t 4)
 (.seq
 (.reg false [2] [⟨(some 5), none, false, .mov (.t 0)⟩,
 ⟨(some 6), none, false, .un .neg (.t 5)⟩,
 ⟨(some 7), none, true, .call 30 [(.t 6)]⟩,
 ⟨(some 8), none, false, .bin .add (.k (.d (.str [45]))) (.t 7)⟩,
 ⟨(some 2), none, false, .mov (.t 8)⟩])
 .ret)
 .skip))
 (.seq
 (.seq
 (.reg false [0, 10] [⟨(some 9), none, false, .mov (.t 0)⟩,
 ⟨(some 10), none, false, .bin .lss (.t 9) (.k (.d (.int .i64 10)))⟩])
 (.cond (.t 10)
 (.seq
 (.reg false [2] [⟨(some 11), none, false, .mov (.t 0)⟩,
 ⟨(some 12), none, false, .mov (.t 0)⟩,
 ⟨(some 13), none, false, .bin .add (.t 12) (.k (.d (.int .i64 1)))⟩,
 ⟨(some 14), none, false, .sls (.k (.d (.str [48, 49, 50, 51, 52, 53, 54, 55, 56, 57]))) (some (.t 11)) (some (.t 13))⟩,
 ⟨(some 2), none, false, .mov (.t 14)⟩])
 .ret)
 .skip))
 (.seq
 (.reg true [2] [⟨(some 15), none, false, .mov (.t 0)⟩,
 ⟨(some 16), none, false, .bin .quo (.t 15) (.k (.d (.int .i64 10)))⟩,
 ⟨(some 17), none, false, .callP 30 [(.t 16)]⟩,
 ⟨(some 18), none, false, .mov (.t 0)⟩,
 ⟨(some 19), none, false, .bin .rem (.t 18) (.k (.d (.int .i64 10)))⟩,
 ⟨(some 20), none, false, .mov (.t 0)⟩,
 ⟨(some 21), none, false, .bin .rem (.t 20) (.k (.d (.int .i64 10)))⟩,
 ⟨(some 22), none, false, .bin .add (.t 21) (.k (.d (.int .i64 1)))⟩,
 ⟨(some 23), none, false, .sls (.k (.d (.str [48, 49, 50, 51, 52, 53, 54, 55, 56, 57]))) (some (.t 19)) (some (.t 22))⟩,
 ⟨(some 24), none, false, .bin .add (.t 17) (.t 23)⟩,
 ⟨(some 2), none, false, .mov (.t 24)⟩])
 .ret))))
theorem c30 : (Go.Proofs.Tryd.f30).body.bind (comp prog.P (1, (Go.Proofs.Tryd.f30).ntmps) lv30) = some m30 := by kernel_rfl
theorem r30 : resOK prog.P (Go.Proofs.Tryd.f30).results.toList = true := by kernel_rfl

/-- spec.l26Rests -/
def lv31 : List (Nat × List Nat) := [(0, [0, 1]), (1, [0, 1, 5]), (2, [0, 1, 5, 6]), (3, [0, 1, 5, 6, 11]), (4, [0, 1, 5, 6]), (5, [0, 1, 5, 6]), (6, [0, 1, 5, 6]), (7, [4])]
def m31 : MC :=
  (.seq
 (.reg false [0, 1] [⟨(some 4), none, false, .mov (.k .nil)⟩])
 (.seq
 (.reg false [0, 1, 5] [⟨(some 7), none, true, .bs 1 0 (.int .i64 0) []⟩,
 ⟨(some 5), none, false, .mov (.t 7)⟩])
 (.seq
 (.seq
 (.reg false [0, 1, 5, 6] [⟨(some 6), none, false, .mov (.k (.d (.int .i64 0)))⟩])
 (.block 0
 (.loop
 (.seq
 (.seq
 (.reg false [0, 1, 5, 6, 11] [⟨(some 8), none, false, .mov (.t 6)⟩,
 ⟨(some 9), none, false, .mov (.t 1)⟩,
 ⟨(some 10), none, false, .len false (.t 9)⟩,
 ⟨(some 11), none, false, .bin .lss (.t 8) (.t 10)⟩])
 (.cond (.t 11)
 .skip
 (.exit 0)))
 (.seq
 (.block 1
 (.seq
 (.reg true [0, 1, 5, 6] [⟨(some 14), none, false, .mov (.t 0)⟩,
 ⟨(some 15), none, false, .mov (.t 1)⟩,
 ⟨(some 16), none, false, .mov (.t 6)⟩,
 ⟨(some 17), none, false, .ia 5 (.t 15) (.t 16)⟩,
 ⟨(some 18), none, false, .fa 1 1 (.t 17)⟩,
 ⟨(some 19), none, false, .ld none (.t 18)⟩,
 ⟨(some 20), none, false, .bin .add (.t 14) (.t 19)⟩,
 ⟨(some 21), none, false, .mov (.t 1)⟩,
 ⟨(some 22), none, false, .mov (.t 6)⟩,
 ⟨(some 23), none, false, .ia 5 (.t 21) (.t 22)⟩,
 ⟨(some 24), none, false, .ld (some 5) (.t 23)⟩,
 ⟨(some 25), none, false, .callP 52 [(.t 24)]⟩,
 ⟨(some 26), none, false, .bin .sub (.t 20) (.t 25)⟩,
 ⟨(some 0), none, false, .mov (.t 26)⟩])
 (.reg false [0, 1, 5, 6] [⟨(some 27), none, false, .mov (.t 5)⟩,
 ⟨(some 28), none, false, .mov (.t 0)⟩,
 ⟨(some 29), none, true, .bs 1 1 (.int .i64 0) [(0, (.t 28))]⟩,
 ⟨(some 30), none, true, .app 1 8 (.t 27) (.t 29)⟩,
 ⟨(some 5), none, false, .mov (.t 30)⟩])))
 (.reg false [0, 1, 5, 6] [⟨(some 12), none, false, .mov (.t 6)⟩,
 ⟨(some 13), none, false, .bin .add (.t 12) (.k (.d (.int .i64 1)))⟩,
 ⟨(some 6), none, false, .mov (.t 13)⟩]))))))
 (.seq
 (.reg false [4] [⟨(some 31), none, false, .mov (.t 5)⟩,
 ⟨(some 4), none, false, .mov (.t 31)⟩])
 .ret))))
theorem c31 : (Go.Proofs.Tryd.f31).body.bind (comp prog.P (0, (Go.Proofs.Tryd.f31).ntmps) lv31) = some m31 := by kernel_rfl
theorem r31 : resOK prog.P (Go.Proofs.Tryd.f31).results.toList = true := by kernel_rfl

/-- impl.restsAfter -/
def lv32 : List (Nat × List Nat) := [(0, [0, 1]), (1, [0, 1, 16]), (2, [4, 5]), (3, [0, 1, 6]), (4, [0, 1, 6, 17, 18, 19]), (5, [0, 1, 6, 17, 18, 19, 20]), (6, [0, 1, 6, 7, 8, 17, 18, 19]), (7, [0, 1, 6, 8, 17, 18, 19, 41]), (8, [4, 5]), (9, [0, 1, 6, 17, 18, 19]), (10, [0, 1, 6, 17, 18, 19, 50]), (11, [4, 5]), (12, [0, 1, 6, 17, 18, 19]), (13, [0, 1, 6, 17, 18, 19]), (14, [4, 5])]
def m32 : MC :=
  (.seq
 (.reg false [0, 1] [⟨(some 4), none, false, .mov (.k .nil)⟩,
 ⟨(some 5), none, false, .mov (.k (.d (.bool false)))⟩])
 (.seq
 (.seq
 (.reg false [0, 1, 16] [⟨(some 9), none, false, .mov (.t 0)⟩,
 ⟨(some 10), none, true, .call 45 [(.t 9)]⟩,
 ⟨(some 11), none, false, .un .not (.t 10)⟩,
 ⟨(some 12), none, false, .mov (.t 11)⟩,
 ⟨(some 13), (some (12, false)), false, .mov (.t 1)⟩,
 ⟨(some 14), (some (12, false)), false, .len false (.t 13)⟩,
 ⟨(some 15), (some (12, false)), false, .bin .gtr (.t 14) (.k (.d (.int .i64 10)))⟩,
 ⟨(some 16), none, false, .pick (.t 12) (.k (.d (.bool true))) (.t 15)⟩])
 (.cond (.t 16)
 (.seq
 (.reg false [4, 5] [⟨(some 4), none, false, .mov (.k .nil)⟩,
 ⟨(some 5), none, false, .mov (.k (.d (.bool false)))⟩])
 .ret)
 .skip))
 (.seq
 (.reg false [0, 1, 6] [⟨(some 6), none, false, .mov (.k .nil)⟩])
 (.seq
 (.seq
 (.reg false [0, 1, 6, 17, 18, 19] [⟨(some 17), none, false, .mov (.t 1)⟩,
 ⟨(some 18), none, false, .len false (.t 17)⟩,
 ⟨(some 19), none, false, .mov (.k (.d (.int .i64 0)))⟩])
 (.block 0
 (.loop
 (.seq
 (.reg false [0, 1, 6, 17, 18, 19, 20] [⟨(some 20), none, false, .bin .lss (.t 19) (.t 18)⟩])
 (.seq
 (.cond (.t 20)
 .skip
 (.exit 0))
 (.seq
 (.block 1
 (.seq
 (.reg false [0, 1, 6, 7, 8, 17, 18, 19] [⟨(some 21), none, false, .mov (.t 19)⟩,
 ⟨(some 22), none, false, .ia 5 (.t 17) (.t 19)⟩,
 ⟨(some 23), none, false, .ld (some 5) (.t 22)⟩,
 ⟨(some 8), none, true, .alloc (.st (.cons (.int .i64 0) (.cons (.int .i64 0) (.cons (.int .i64 0) (.cons (.int .i64 0) (.cons (.int .i64 0) .nil))))))⟩,
 ⟨(some 7), none, false, .mov (.t 21)⟩,
 ⟨none, none, true, .st 5 (.t 8) (.t 23)⟩])
 (.seq
 (.seq
 (.reg true [0, 1, 6, 8, 17, 18, 19, 41] [⟨(some 24), none, false, .ld (some 5) (.t 8)⟩,
 ⟨(some 25), none, false, .callP 24 [(.t 24)]⟩,
 ⟨(some 26), none, false, .un .not (.t 25)⟩,
 ⟨(some 27), none, false, .mov (.t 26)⟩,
 ⟨(some 28), (some (27, false)), false, .mov (.t 7)⟩,
 ⟨(some 29), (some (27, false)), false, .bin .gtr (.t 28) (.k (.d (.int .i64 0)))⟩,
 ⟨(some 30), (some (27, false)), false, .mov (.t 29)⟩,
 ⟨(some 31), (some (30, true)), false, .mov (.t 1)⟩,
 ⟨(some 32), (some (30, true)), false, .mov (.t 7)⟩,
 ⟨(some 33), (some (30, true)), false, .bin .sub (.t 32) (.k (.d (.int .i64 1)))⟩,
 ⟨(some 34), (some (30, true)), false, .ia 5 (.t 31) (.t 33)⟩,
 ⟨(some 35), (some (30, true)), false, .fa 0 0 (.t 34)⟩,
 ⟨(some 36), (some (30, true)), false, .ld none (.t 35)⟩,
 ⟨(some 37), (some (30, true)), false, .fa 0 0 (.t 8)⟩,
 ⟨(some 38), (some (30, true)), false, .ld none (.t 37)⟩,
 ⟨(some 39), (some (30, true)), false, .bin .geq (.t 36) (.t 38)⟩,
 ⟨(some 40), (some (27, false)), false, .pick (.t 30) (.t 39) (.k (.d (.bool false)))⟩,
 ⟨(some 41), none, false, .pick (.t 27) (.k (.d (.bool true))) (.t 40)⟩])
 (.cond (.t 41)
 (.seq
 (.reg false [4, 5] [⟨(some 4), none, false, .mov (.k .nil)⟩,
 ⟨(some 5), none, false, .mov (.k (.d (.bool false)))⟩])
 .ret)
 .skip))
 (.seq
 (.reg true [0, 1, 6, 17, 18, 19] [⟨(some 42), none, false, .mov (.t 0)⟩,
 ⟨(some 43), none, false, .fa 1 1 (.t 8)⟩,
 ⟨(some 44), none, false, .ld none (.t 43)⟩,
 ⟨(some 45), none, false, .ld (some 5) (.t 8)⟩,
 ⟨(some 46), none, false, .callP 41 [(.t 45)]⟩,
 ⟨(some 47), none, false, .bin .sub (.t 44) (.t 46)⟩,
 ⟨(some 48), none, false, .bin .add (.t 42) (.t 47)⟩,
 ⟨(some 0), none, false, .mov (.t 48)⟩])
 (.seq
 (.seq
 (.reg false [0, 1, 6, 17, 18, 19, 50] [⟨(some 49), none, false, .mov (.t 0)⟩,
 ⟨(some 50), none, false, .bin .lss (.t 49) (.k (.d (.int .i64 0)))⟩])
 (.cond (.t 50)
 (.seq
 (.reg false [4, 5] [⟨(some 4), none, false, .mov (.k .nil)⟩,
 ⟨(some 5), none, false, .mov (.k (.d (.bool false)))⟩])
 .ret)
 .skip))
 (.reg false [0, 1, 6, 17, 18, 19] [⟨(some 51), none, false, .mov (.t 6)⟩,
 ⟨(some 52), none, false, .mov (.t 0)⟩,
 ⟨(some 53), none, true, .bs 1 1 (.int .i64 0) [(0, (.t 52))]⟩,
 ⟨(some 54), none, true, .app 1 8 (.t 51) (.t 53)⟩,
 ⟨(some 6), none, false, .mov (.t 54)⟩]))))))
 (.reg false [0, 1, 6, 17, 18, 19] [⟨(some 55), none, false, .bin .add (.t 19) (.k (.d (.int .i64 1)))⟩,
 ⟨(some 19), none, false, .mov (.t 55)⟩])))))))
 (.seq
 (.reg false [4, 5] [⟨(some 56), none, false, .mov (.t 6)⟩,
 ⟨(some 4), none, false, .mov (.t 56)⟩,
 ⟨(some 5), none, false, .mov (.k (.d (.bool true)))⟩])
 .ret)))))
theorem c32 : (Go.Proofs.Tryd.f32).body.bind (comp prog.P (0, (Go.Proofs.Tryd.f32).ntmps) lv32) = some m32 := by kernel_rfl
theorem r32 : resOK prog.P (Go.Proofs.Tryd.f32).results.toList = true := by kernel_rfl

/-- impl.decimal -/
def lv33 : List (Nat × List Nat) := [(0, [0]), (1, [2])]
def m33 : MC :=
  (.seq
 (.reg false [0] [⟨(some 2), none, false, .mov (.k (.d (.str [])))⟩])
 (.seq
 (.reg false [2] [⟨(some 3), none, false, .mov (.t 0)⟩,
 ⟨(some 4), none, true, .call 53 [(.t 3)]⟩,
 ⟨(some 2), none, false, .mov (.t 4)⟩])
 .ret))
theorem c33 : (Go.Proofs.Tryd.f33).body.bind (comp prog.P (1, (Go.Proofs.Tryd.f33).ntmps) lv33) = some m33 := by kernel_rfl
theorem r33 : resOK prog.P (Go.Proofs.Tryd.f33).results.toList = true := by kernel_rfl

/-- laws.eqYearRow -/
def lv34 : List (Nat × List Nat) := [(0, [2, 3]), (1, [2, 3, 9]), (2, [4]), (3, [2, 3, 14]), (4, [4]), (5, [2, 3, 19]), (6, [4]), (7, [2, 3, 24]), (8, [4]), (9, [29]), (10, [4]), (11, [4])]
def m34 : MC :=
  (.seq
 (.reg false [2, 3] [⟨(some 2), none, true, .box (.t 0)⟩,
 ⟨(some 3), none, true, .box (.t 1)⟩,
 ⟨(some 4), none, false, .mov (.k (.d (.bool false)))⟩])
 (.seq
 (.seq
 (.reg false [2, 3, 9] [⟨(some 5), none, false, .fa 0 0 (.t 2)⟩,
 ⟨(some 6), none, false, .ld none (.t 5)⟩,
 ⟨(some 7), none, false, .fa 0 0 (.t 3)⟩,
 ⟨(some 8), none, false, .ld none (.t 7)⟩,
 ⟨(some 9), none, false, .bin .neq (.t 6) (.t 8)⟩])
 (.cond (.t 9)
 (.seq
 (.reg false [4] [⟨(some 4), none, false, .mov (.k (.d (.bool false)))⟩])
 .ret)
 .skip))
 (.seq
 (.seq
 (.reg false [2, 3, 14] [⟨(some 10), none, false, .fa 1 1 (.t 2)⟩,
 ⟨(some 11), none, false, .ld none (.t 10)⟩,
 ⟨(some 12), none, false, .fa 1 1 (.t 3)⟩,
 ⟨(some 13), none, false, .ld none (.t 12)⟩,
 ⟨(some 14), none, false, .bin .neq (.t 11) (.t 13)⟩])
 (.cond (.t 14)
 (.seq
 (.reg false [4] [⟨(some 4), none, false, .mov (.k (.d (.bool false)))⟩])
 .ret)
 .skip))
 (.seq
 (.seq
 (.reg false [2, 3, 19] [⟨(some 15), none, false, .fa 2 2 (.t 2)⟩,
 ⟨(some 16), none, false, .ld none (.t 15)⟩,
 ⟨(some 17), none, false, .fa 2 2 (.t 3)⟩,
 ⟨(some 18), none, false, .ld none (.t 17)⟩,
 ⟨(some 19), none, false, .bin .neq (.t 16) (.t 18)⟩])
 (.cond (.t 19)
 (.seq
 (.reg false [4] [⟨(some 4), none, false, .mov (.k (.d (.bool false)))⟩])
 .ret)
 .skip))
 (.seq
 (.seq
 (.reg false [2, 3, 24] [⟨(some 20), none, false, .fa 3 3 (.t 2)⟩,
 ⟨(some 21), none, false, .ld none (.t 20)⟩,
 ⟨(some 22), none, false, .fa 3 3 (.t 3)⟩,
 ⟨(some 23), none, false, .ld none (.t 22)⟩,
 ⟨(some 24), none, false, .bin .neq (.t 21) (.t 23)⟩])
 (.cond (.t 24)
 (.seq
 (.reg false [4] [⟨(some 4), none, false, .mov (.k (.d (.bool false)))⟩])
 .ret)
 .skip))
 (.seq
 (.seq
 (.reg false [29] [⟨(some 25), none, false, .fa 4 4 (.t 2)⟩,
 ⟨(some 26), none, false, .ld none (.t 25)⟩,
 ⟨(some 27), none, false, .fa 4 4 (.t 3)⟩,
 ⟨(some 28), none, false, .ld none (.t 27)⟩,
 ⟨(some 29), none, false, .bin .neq (.t 26) (.t 28)⟩])
 (.cond (.t 29)
 (.seq
 (.reg false [4] [⟨(some 4), none, false, .mov (.k (.d (.bool false)))⟩])
 .ret)
 .skip))
 (.seq
 (.reg false [4] [⟨(some 4), none, false, .mov (.k (.d (.bool true)))⟩])
 .ret)))))))
theorem c34 : (Go.Proofs.Tryd.f34).body.bind (comp prog.P (2, (Go.Proofs.Tryd.f34).ntmps) lv34) = some m34 := by kernel_rfl
theorem r34 : resOK prog.P (Go.Proofs.Tryd.f34).results.toList = true := by kernel_rfl

/-- impl.YearRow).gone -/
def lv41 : List (Nat × List Nat) := [(0, [1]), (1, [2])]
def m41 : MC :=
  (.seq
 (.reg false [1] [⟨(some 1), none, true, .box (.t 0)⟩,
 ⟨(some 2), none, false, .mov (.k (.d (.int .i64 0)))⟩])
 (.seq
 (.reg false [2] [⟨(some 3), none, false, .fa 2 2 (.t 1)⟩,
 ⟨(some 4), none, false, .ld none (.t 3)⟩,
 ⟨(some 5), none, false, .fa 3 3 (.t 1)⟩,
 ⟨(some 6), none, false, .ld none (.t 5)⟩,
 ⟨(some 7), none, false, .bin .add (.t 4) (.t 6)⟩,
 ⟨(some 8), none, false, .fa 4 4 (.t 1)⟩,
 ⟨(some 9), none, false, .ld none (.t 8)⟩,
 ⟨(some 10), none, false, .bin .add (.t 7) (.t 9)⟩,
 ⟨(some 2), none, false, .mov (.t 10)⟩])
 .ret))
theorem c41 : (Go.Proofs.Tryd.f41).body.bind (comp prog.P (1, (Go.Proofs.Tryd.f41).ntmps) lv41) = some m41 := by kernel_rfl
theorem r41 : resOK prog.P (Go.Proofs.Tryd.f41).results.toList = true := by kernel_rfl

/-- impl.within -/
def lv44 : List (Nat × List Nat) := [(0, [0, 1, 2]), (1, [6])]
def m44 : MC :=
  (.seq
 (.reg false [0, 1, 2] [⟨(some 6), none, false, .mov (.k (.d (.bool false)))⟩])
 (.seq
 (.reg false [6] [⟨(some 7), none, false, .mov (.t 1)⟩,
 ⟨(some 8), none, false, .mov (.t 0)⟩,
 ⟨(some 9), none, false, .bin .leq (.t 7) (.t 8)⟩,
 ⟨(some 10), none, false, .mov (.t 9)⟩,
 ⟨(some 11), (some (10, true)), false, .mov (.t 0)⟩,
 ⟨(some 12), (some (10, true)), false, .mov (.t 2)⟩,
 ⟨(some 13), (some (10, true)), false, .bin .leq (.t 11) (.t 12)⟩,
 ⟨(some 14), none, false, .pick (.t 10) (.t 13) (.k (.d (.bool false)))⟩,
 ⟨(some 6), none, false, .mov (.t 14)⟩])
 .ret))
theorem c44 : (Go.Proofs.Tryd.f44).body.bind (comp prog.P (3, (Go.Proofs.Tryd.f44).ntmps) lv44) = some m44 := by kernel_rfl
theorem r44 : resOK prog.P (Go.Proofs.Tryd.f44).results.toList = true := by kernel_rfl

/-- impl.isCount -/
def lv45 : List (Nat × List Nat) := [(0, [0]), (1, [2])]
def m45 : MC :=
  (.seq
 (.reg false [0] [⟨(some 2), none, false, .mov (.k (.d (.bool false)))⟩])
 (.seq
 (.reg false [2] [⟨(some 3), none, false, .mov (.t 0)⟩,
 ⟨(some 4), none, true, .call 44 [(.t 3), (.k (.d (.int .i64 0))), (.k (.d (.int .i64 9999)))]⟩,
 ⟨(some 2), none, false, .mov (.t 4)⟩])
 .ret))
theorem c45 : (Go.Proofs.Tryd.f45).body.bind (comp prog.P (1, (Go.Proofs.Tryd.f45).ntmps) lv45) = some m45 := by kernel_rfl
theorem r45 : resOK prog.P (Go.Proofs.Tryd.f45).results.toList = true := by kernel_rfl

/-- spec.l1In -/
def lv50 : List (Nat × List Nat) := [(0, [0, 1, 2]), (1, [6])]
def m50 : MC :=
  (.seq
 (.reg false [0, 1, 2] [⟨(some 6), none, false, .mov (.k (.d (.bool false)))⟩])
 (.seq
 (.reg false [6] [⟨(some 7), none, false, .mov (.t 0)⟩,
 ⟨(some 8), none, false, .mov (.t 1)⟩,
 ⟨(some 9), none, false, .bin .geq (.t 7) (.t 8)⟩,
 ⟨(some 10), none, false, .mov (.t 9)⟩,
 ⟨(some 11), (some (10, true)), false, .mov (.t 0)⟩,
 ⟨(some 12), (some (10, true)), false, .mov (.t 2)⟩,
 ⟨(some 13), (some (10, true)), false, .bin .leq (.t 11) (.t 12)⟩,
 ⟨(some 14), none, false, .pick (.t 10) (.t 13) (.k (.d (.bool false)))⟩,
 ⟨(some 6), none, false, .mov (.t 14)⟩])
 .ret))
theorem c50 : (Go.Proofs.Tryd.f50).body.bind (comp prog.P (3, (Go.Proofs.Tryd.f50).ntmps) lv50) = some m50 := by kernel_rfl
theorem r50 : resOK prog.P (Go.Proofs.Tryd.f50).results.toList = true := by kernel_rfl

/-- spec.l26Count -/
def lv51 : List (Nat × List Nat) := [(0, [0]), (1, [2])]
def m51 : MC :=
  (.seq
 (.reg false [0] [⟨(some 2), none, false, .mov (.k (.d (.bool false)))⟩])
 (.seq
 (.reg false [2] [⟨(some 3), none, false, .mov (.t 0)⟩,
 ⟨(some 4), none, true, .call 50 [(.t 3), (.k (.d (.int .i64 0))), (.k (.d (.int .i64 9999)))]⟩,
 ⟨(some 2), none, false, .mov (.t 4)⟩])
 .ret))
theorem c51 : (Go.Proofs.Tryd.f51).body.bind (comp prog.P (1, (Go.Proofs.Tryd.f51).ntmps) lv51) = some m51 := by kernel_rfl
theorem r51 : resOK prog.P (Go.Proofs.Tryd.f51).results.toList = true := by kernel_rfl

/-- spec.l26Gone -/
def lv52 : List (Nat × List Nat) := [(0, [1]), (1, [2])]
def m52 : MC :=
  (.seq
 (.reg false [1] [⟨(some 1), none, true, .box (.t 0)⟩,
 ⟨(some 2), none, false, .mov (.k (.d (.int .i64 0)))⟩])
 (.seq
 (.reg false [2] [⟨(some 3), none, false, .fa 2 2 (.t 1)⟩,
 ⟨(some 4), none, false, .ld none (.t 3)⟩,
 ⟨(some 5), none, false, .fa 3 3 (.t 1)⟩,
 ⟨(some 6), none, false, .ld none (.t 5)⟩,
 ⟨(some 7), none, false, .bin .add (.t 4) (.t 6)⟩,
 ⟨(some 8), none, false, .fa 4 4 (.t 1)⟩,
 ⟨(some 9), none, false, .ld none (.t 8)⟩,
 ⟨(some 10), none, false, .bin .add (.t 7) (.t 9)⟩,
 ⟨(some 2), none, false, .mov (.t 10)⟩])
 .ret))
theorem c52 : (Go.Proofs.Tryd.f52).body.bind (comp prog.P (1, (Go.Proofs.Tryd.f52).ntmps) lv52) = some m52 := by kernel_rfl
theorem r52 : resOK prog.P (Go.Proofs.Tryd.f52).results.toList = true := by kernel_rfl

end Go.Pe.Tryd
