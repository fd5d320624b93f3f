/-
The compact code of the functions that the law reaches, printed by gen.py, each with the proof that the machine's code is compiled to it.
-/
import Derived.Test.YtdjfaadhfcidnaaDoorPeC
import Derived.Lib.ItoaNum
import Derived.Lib.LaidTab
import Derived.Test.YtdjfaadhfcidnaaDoorProg
import Derived.KernelRfl
set_option maxRecDepth 100000
namespace Go.Pe.Tryd
open Go.Pe

/-- of the start-up memory it is asked that the library's table of powers of ten stands. -/
theorem tab_stab {P : Program} {n : String} {k : IntKind} {zs : List Int} {g : Nat} (hg : P.globalNamed n = some g) (w w' : World) (_ : w.heap.size ≤ w'.heap.size) (hk : ∀ b, b < w.heap.size → w'.heap[b]? = w.heap[b]?) (h : Go.Lib.TabIs P w n k zs) : Go.Lib.TabIs P w' n k zs := by
  unfold Go.Lib.TabIs World.var? at h ⊢
  rw [hg] at h ⊢
  simp only [Option.bind_some] at h ⊢
  by_cases hb : g < w.heap.size
  · rw [hk g hb]; exact h
  · rw [Array.getElem?_eq_none (by omega)] at h
    simp at h
noncomputable def prog : PG := ⟨Go.Proofs.Tryd.prog, fun w => Go.Lib.TabIs Go.Proofs.Tryd.prog w "internal/strconv.uint64pow10" .u64 Go.Lib.pow10Tab, fun w w' hs hk h => tab_stab (show Go.Proofs.Tryd.prog.globalNamed "internal/strconv.uint64pow10" = some 1 by kernel_rfl) w w' hs hk h⟩

theorem sz27 : sizeOfT prog.P 27 = some 2 := by kernel_rfl

/-- laws.FnExactEncodeRecord -/
def lv3 : List (Nat × List Nat) := [(0, [0, 3]), (1, [0, 3, 5]), (2, [0, 3, 5]), (3, [0, 3, 14]), (4, [4]), (5, [0, 3, 6, 7]), (6, [6, 7, 8, 9]), (7, [36]), (8, [4]), (9, [4])]
def m3 : MC :=
  (.seq
 (.reg false [0, 3] [⟨(some 3), none, true, .box (.t 1)⟩,
 ⟨(some 4), none, false, .mov (.k (.d (.bool false)))⟩])
 (.seq
 (.reg false [0, 3, 5] [⟨(some 5), none, false, .mov (.k (.d (.int .i64 1048576)))⟩])
 (.seq
 (.reg false [0, 3, 5] [⟨(some 10), none, false, .ld (some 2) (.t 3)⟩,
 ⟨(some 11), none, false, .mov (.t 5)⟩,
 ⟨(some 12), none, true, .call 13 [(.t 10), (.t 11)]⟩,
 ⟨(some 5), none, false, .mov (.t 12)⟩])
 (.seq
 (.seq
 (.reg false [0, 3, 14] [⟨(some 13), none, false, .mov (.t 5)⟩,
 ⟨(some 14), none, false, .bin .lss (.t 13) (.k (.d (.int .i64 0)))⟩])
 (.cond (.t 14)
 (.seq
 (.reg false [4] [⟨(some 4), none, false, .mov (.k (.d (.bool true)))⟩])
 .ret)
 .skip))
 (.seq
 (.reg false [0, 3, 6, 7] [⟨(some 16), none, false, .mov (.t 0)⟩,
 ⟨(some 17), none, false, .ld (some 2) (.t 3)⟩,
 ⟨(some 18), none, true, .call 15 [(.t 17)]⟩,
 ⟨(some 19), none, true, .call 14 [(.t 16), (.t 18)]⟩,
 ⟨(some 15), none, false, .mov (.t 19)⟩,
 ⟨(some 20), none, false, .ext (.t 15) 0⟩,
 ⟨(some 21), none, false, .ext (.t 15) 1⟩,
 ⟨(some 6), none, false, .mov (.t 20)⟩,
 ⟨(some 7), none, false, .mov (.t 21)⟩])
 (.seq
 (.reg false [6, 7, 8, 9] [⟨(some 23), none, false, .mov (.t 0)⟩,
 ⟨(some 24), none, false, .ld (some 2) (.t 3)⟩,
 ⟨(some 25), none, true, .call 15 [(.t 24)]⟩,
 ⟨(some 26), none, true, .call 16 [(.t 23), (.t 25)]⟩,
 ⟨(some 22), none, false, .mov (.t 26)⟩,
 ⟨(some 27), none, false, .ext (.t 22) 0⟩,
 ⟨(some 28), none, false, .ext (.t 22) 1⟩,
 ⟨(some 8), none, false, .mov (.t 27)⟩,
 ⟨(some 9), none, false, .mov (.t 28)⟩])
 (.seq
 (.seq
 (.reg false [36] [⟨(some 29), none, false, .mov (.t 8)⟩,
 ⟨(some 30), none, false, .mov (.t 6)⟩,
 ⟨(some 31), none, false, .bin .neq (.t 29) (.t 30)⟩,
 ⟨(some 32), none, false, .mov (.t 31)⟩,
 ⟨(some 33), (some (32, false)), false, .mov (.t 9)⟩,
 ⟨(some 34), (some (32, false)), false, .mov (.t 7)⟩,
 ⟨(some 35), (some (32, false)), false, .bb .neq (.t 33) (.t 34)⟩,
 ⟨(some 36), none, false, .pick (.t 32) (.k (.d (.bool true))) (.t 35)⟩])
 (.cond (.t 36)
 (.seq
 (.reg false [4] [⟨(some 4), none, false, .mov (.k (.d (.bool false)))⟩])
 .ret)
 .skip))
 (.seq
 (.reg false [4] [⟨(some 4), none, false, .mov (.k (.d (.bool true)))⟩])
 .ret))))))))
theorem c3 : (Go.Proofs.Tryd.f3).body.bind (comp prog.P (2, (Go.Proofs.Tryd.f3).ntmps) lv3) = some m3 := by kernel_rfl
theorem r3 : resOK prog.P (Go.Proofs.Tryd.f3).results.toList = true := by kernel_rfl

/-- laws.szLogRecord -/
def lv13 : List (Nat × List Nat) := [(0, [1, 2]), (1, [1, 2]), (2, [1, 2, 11]), (3, [4]), (4, [1]), (5, [1, 18]), (6, [4]), (7, [4])]
def m13 : MC :=
  (.seq
 (.reg false [1, 2] [⟨(some 2), none, true, .box (.t 0)⟩,
 ⟨(some 4), none, false, .mov (.k (.d (.int .i64 0)))⟩])
 (.seq
 (.reg false [1, 2] [⟨(some 5), none, false, .mov (.t 1)⟩,
 ⟨(some 6), none, false, .fa 0 0 (.t 2)⟩,
 ⟨(some 7), none, false, .ld none (.t 6)⟩,
 ⟨(some 8), none, false, .len true (.t 7)⟩,
 ⟨(some 9), none, false, .bin .sub (.t 5) (.t 8)⟩,
 ⟨(some 1), none, false, .mov (.t 9)⟩])
 (.seq
 (.seq
 (.reg false [1, 2, 11] [⟨(some 10), none, false, .mov (.t 1)⟩,
 ⟨(some 11), none, false, .bin .lss (.t 10) (.k (.d (.int .i64 0)))⟩])
 (.cond (.t 11)
 (.seq
 (.reg false [4] [⟨(some 4), none, false, .mov (.k (.d (.int .i64 (-1))))⟩])
 .ret)
 .skip))
 (.seq
 (.reg false [1] [⟨(some 12), none, false, .mov (.t 1)⟩,
 ⟨(some 13), none, false, .fa 1 1 (.t 2)⟩,
 ⟨(some 14), none, false, .ld none (.t 13)⟩,
 ⟨(some 15), none, false, .len true (.t 14)⟩,
 ⟨(some 16), none, false, .bin .sub (.t 12) (.t 15)⟩,
 ⟨(some 1), none, false, .mov (.t 16)⟩])
 (.seq
 (.seq
 (.reg false [1, 18] [⟨(some 17), none, false, .mov (.t 1)⟩,
 ⟨(some 18), none, false, .bin .lss (.t 17) (.k (.d (.int .i64 0)))⟩])
 (.cond (.t 18)
 (.seq
 (.reg false [4] [⟨(some 4), none, false, .mov (.k (.d (.int .i64 (-1))))⟩])
 .ret)
 .skip))
 (.seq
 (.reg false [4] [⟨(some 19), none, false, .mov (.t 1)⟩,
 ⟨(some 4), none, false, .mov (.t 19)⟩])
 .ret))))))
theorem c13 : (Go.Proofs.Tryd.f13).body.bind (comp prog.P (1, (Go.Proofs.Tryd.f13).ntmps) lv13) = some m13 := by kernel_rfl
theorem r13 : resOK prog.P (Go.Proofs.Tryd.f13).results.toList = true := by kernel_rfl

/-- spec.EncodeRecord -/
def lv14 : List (Nat × List Nat) := [(0, [0, 3]), (1, [0, 3, 13]), (2, [4, 5]), (3, [4, 5])]
def m14 : MC :=
  (.seq
 (.reg false [0, 3] [⟨(some 3), none, true, .box (.t 1)⟩,
 ⟨(some 4), none, false, .mov (.k (.d (.str [])))⟩,
 ⟨(some 5), none, false, .mov (.k (.d (.bool false)))⟩])
 (.seq
 (.seq
 (.reg false [0, 3, 13] [⟨(some 6), none, false, .mov (.t 0)⟩,
 ⟨(some 7), none, true, .call 42 [(.t 6), (.k (.d (.int .i64 0))), (.k (.d (.int .i64 59)))]⟩,
 ⟨(some 8), none, false, .un .not (.t 7)⟩,
 ⟨(some 9), none, false, .mov (.t 8)⟩,
 ⟨(some 10), (some (9, false)), false, .ld (some 2) (.t 3)⟩,
 ⟨(some 11), (some (9, false)), true, .call 43 [(.t 10)]⟩,
 ⟨(some 12), (some (9, false)), false, .un .not (.t 11)⟩,
 ⟨(some 13), none, false, .pick (.t 9) (.k (.d (.bool true))) (.t 12)⟩])
 (.cond (.t 13)
 (.seq
 (.reg false [4, 5] [⟨(some 4), none, false, .mov (.k (.d (.str [])))⟩,
 ⟨(some 5), none, false, .mov (.k (.d (.bool false)))⟩])
 .ret)
 .skip))
 (.seq
 (.reg false [4, 5] [⟨(some 14), none, false, .mov (.t 0)⟩,
 ⟨(some 15), none, false, .ld (some 2) (.t 3)⟩,
 ⟨(some 16), none, true, .call 44 [(.t 14), (.t 15)]⟩,
 ⟨(some 4), none, false, .mov (.t 16)⟩,
 ⟨(some 5), none, false, .mov (.k (.d (.bool true)))⟩])
 .ret)))
theorem c14 : (Go.Proofs.Tryd.f14).body.bind (comp prog.P (2, (Go.Proofs.Tryd.f14).ntmps) lv14) = some m14 := by kernel_rfl
theorem r14 : resOK prog.P (Go.Proofs.Tryd.f14).results.toList = true := by kernel_rfl

/-- laws.toLogRecord -/
def lv15 : List (Nat × List Nat) := [(0, [1, 2]), (1, [1, 2, 3]), (2, [1, 2, 3]), (3, [2, 3]), (4, [2])]
def m15 : MC :=
  (.seq
 (.reg false [1, 2] [⟨(some 1), none, true, .box (.t 0)⟩,
 ⟨(some 2), none, true, .alloc (.st (.cons (.str []) (.cons (.str []) .nil)))⟩])
 (.seq
 (.reg false [1, 2, 3] [⟨(some 3), none, true, .alloc (.st (.cons (.str []) (.cons (.str []) .nil)))⟩])
 (.seq
 (.reg false [1, 2, 3] [⟨(some 4), none, false, .fa 0 0 (.t 1)⟩,
 ⟨(some 5), none, false, .ld none (.t 4)⟩,
 ⟨(some 6), none, false, .fa 0 0 (.t 3)⟩,
 ⟨none, none, true, .st 1 (.t 6) (.t 5)⟩])
 (.seq
 (.reg false [2, 3] [⟨(some 7), none, false, .fa 1 1 (.t 1)⟩,
 ⟨(some 8), none, false, .ld none (.t 7)⟩,
 ⟨(some 9), none, false, .fa 1 1 (.t 3)⟩,
 ⟨none, none, true, .st 1 (.t 9) (.t 8)⟩])
 (.seq
 (.reg false [2] [⟨(some 10), none, false, .ld (some 2) (.t 3)⟩,
 ⟨none, none, true, .st 2 (.t 2) (.t 10)⟩])
 .ret)))))
theorem c15 : (Go.Proofs.Tryd.f15).body.bind (comp prog.P (1, (Go.Proofs.Tryd.f15).ntmps) lv15) = some m15 := by kernel_rfl
theorem r15 : resOK prog.P (Go.Proofs.Tryd.f15).results.toList = true := by kernel_rfl

/-- impl.EncodeRecord -/
def lv16 : List (Nat × List Nat) := [(0, [0, 3]), (1, [0, 3, 15]), (2, [4, 5]), (3, [6, 7]), (4, [4, 5])]
def m16 : MC :=
  (.seq
 (.reg false [0, 3] [⟨(some 3), none, true, .box (.t 1)⟩,
 ⟨(some 4), none, false, .mov (.k (.d (.str [])))⟩,
 ⟨(some 5), none, false, .mov (.k (.d (.bool false)))⟩])
 (.seq
 (.seq
 (.reg false [0, 3, 15] [⟨(some 8), none, false, .mov (.t 0)⟩,
 ⟨(some 9), none, true, .call 45 [(.t 8), (.k (.d (.int .i64 0))), (.k (.d (.int .i64 59)))]⟩,
 ⟨(some 10), none, false, .un .not (.t 9)⟩,
 ⟨(some 11), none, false, .mov (.t 10)⟩,
 ⟨(some 12), (some (11, false)), false, .ld (some 2) (.t 3)⟩,
 ⟨(some 13), (some (11, false)), true, .call 39 [(.t 12)]⟩,
 ⟨(some 14), (some (11, false)), false, .un .not (.t 13)⟩,
 ⟨(some 15), none, false, .pick (.t 11) (.k (.d (.bool true))) (.t 14)⟩])
 (.cond (.t 15)
 (.seq
 (.reg false [4, 5] [⟨(some 4), none, false, .mov (.k (.d (.str [])))⟩,
 ⟨(some 5), none, false, .mov (.k (.d (.bool false)))⟩])
 .ret)
 .skip))
 (.seq
 (.reg true [6, 7] [⟨(some 17), none, false, .mov (.t 0)⟩,
 ⟨(some 18), none, false, .callP 47 [(.t 17)]⟩,
 ⟨(some 19), none, false, .bin .add (.t 18) (.k (.d (.str [32])))⟩,
 ⟨(some 20), none, false, .fa 0 0 (.t 3)⟩,
 ⟨(some 21), none, false, .ld none (.t 20)⟩,
 ⟨(some 22), none, false, .bin .add (.t 19) (.t 21)⟩,
 ⟨(some 23), none, false, .bin .add (.t 22) (.k (.d (.str [64])))⟩,
 ⟨(some 24), none, false, .fa 1 1 (.t 3)⟩,
 ⟨(some 25), none, false, .ld none (.t 24)⟩,
 ⟨(some 26), none, false, .bin .add (.t 23) (.t 25)⟩,
 ⟨(some 27), none, false, .callP 46 [(.t 26)]⟩,
 ⟨(some 16), none, false, .mov (.t 27)⟩,
 ⟨(some 28), none, false, .ext (.t 16) 0⟩,
 ⟨(some 29), none, false, .ext (.t 16) 1⟩,
 ⟨(some 6), none, false, .mov (.t 28)⟩,
 ⟨(some 7), none, false, .mov (.t 29)⟩])
 (.seq
 (.reg false [4, 5] [⟨(some 30), none, false, .mov (.t 6)⟩,
 ⟨(some 31), none, false, .bin .add (.t 30) (.k (.d (.str [10])))⟩,
 ⟨(some 32), none, false, .mov (.t 7)⟩,
 ⟨(some 4), none, false, .mov (.t 31)⟩,
 ⟨(some 5), none, false, .mov (.t 32)⟩])
 .ret))))
theorem c16 : (Go.Proofs.Tryd.f16).body.bind (comp prog.P (2, (Go.Proofs.Tryd.f16).ntmps) lv16) = some m16 := by kernel_rfl
theorem r16 : resOK prog.P (Go.Proofs.Tryd.f16).results.toList = true := by kernel_rfl

/-- impl.IsValidRecord -/
def lv39 : List (Nat × List Nat) := [(0, [1]), (1, [2])]
def m39 : MC :=
  (.seq
 (.reg false [1] [⟨(some 1), none, true, .box (.t 0)⟩,
 ⟨(some 2), none, false, .mov (.k (.d (.bool false)))⟩])
 (.seq
 (.reg false [2] [⟨(some 3), none, false, .fa 0 0 (.t 1)⟩,
 ⟨(some 4), none, false, .ld none (.t 3)⟩,
 ⟨(some 5), none, false, .len true (.t 4)⟩,
 ⟨(some 6), none, true, .call 45 [(.t 5), (.k (.d (.int .i64 1))), (.k (.d (.int .i64 160)))]⟩,
 ⟨(some 7), none, false, .mov (.t 6)⟩,
 ⟨(some 8), (some (7, true)), false, .fa 1 1 (.t 1)⟩,
 ⟨(some 9), (some (7, true)), false, .ld none (.t 8)⟩,
 ⟨(some 10), (some (7, true)), false, .len true (.t 9)⟩,
 ⟨(some 11), (some (7, true)), false, .bin .leq (.t 10) (.k (.d (.int .i64 200)))⟩,
 ⟨(some 12), none, false, .pick (.t 7) (.t 11) (.k (.d (.bool false)))⟩,
 ⟨(some 13), none, false, .mov (.t 12)⟩,
 ⟨(some 14), (some (13, true)), false, .fa 0 0 (.t 1)⟩,
 ⟨(some 15), (some (13, true)), false, .ld none (.t 14)⟩,
 ⟨(some 16), (some (13, true)), true, .call 61 [(.t 15)]⟩,
 ⟨(some 17), none, false, .pick (.t 13) (.t 16) (.k (.d (.bool false)))⟩,
 ⟨(some 18), none, false, .mov (.t 17)⟩,
 ⟨(some 19), (some (18, true)), false, .fa 1 1 (.t 1)⟩,
 ⟨(some 20), (some (18, true)), false, .ld none (.t 19)⟩,
 ⟨(some 21), (some (18, true)), true, .call 61 [(.t 20)]⟩,
 ⟨(some 22), none, false, .pick (.t 18) (.t 21) (.k (.d (.bool false)))⟩,
 ⟨(some 23), none, false, .mov (.t 22)⟩,
 ⟨(some 24), (some (23, true)), false, .fa 0 0 (.t 1)⟩,
 ⟨(some 25), (some (23, true)), false, .ld none (.t 24)⟩,
 ⟨(some 26), (some (23, true)), true, .call 62 [(.t 25), (.k (.d (.str [64])))]⟩,
 ⟨(some 27), (some (23, true)), false, .un .not (.t 26)⟩,
 ⟨(some 28), none, false, .pick (.t 23) (.t 27) (.k (.d (.bool false)))⟩,
 ⟨(some 2), none, false, .mov (.t 28)⟩])
 .ret))
theorem c39 : (Go.Proofs.Tryd.f39).body.bind (comp prog.P (1, (Go.Proofs.Tryd.f39).ntmps) lv39) = some m39 := by kernel_rfl
theorem r39 : resOK prog.P (Go.Proofs.Tryd.f39).results.toList = true := by kernel_rfl

/-- spec.l1In -/
def lv42 : List (Nat × List Nat) := [(0, [0, 1, 2]), (1, [6])]
def m42 : MC :=
  (.seq
 (.reg false [0, 1, 2] [⟨(some 6), none, false, .mov (.k (.d (.bool false)))⟩])
 (.seq
 (.reg false [6] [⟨(some 7), none, false, .mov (.t 0)⟩,
 ⟨(some 8), none, false, .mov (.t 1)⟩,
 ⟨(some 9), none, false, .bin .geq (.t 7) (.t 8)⟩,
 ⟨(some 10), none, false, .mov (.t 9)⟩,
 ⟨(some 11), (some (10, true)), false, .mov (.t 0)⟩,
 ⟨(some 12), (some (10, true)), false, .mov (.t 2)⟩,
 ⟨(some 13), (some (10, true)), false, .bin .leq (.t 11) (.t 12)⟩,
 ⟨(some 14), none, false, .pick (.t 10) (.t 13) (.k (.d (.bool false)))⟩,
 ⟨(some 6), none, false, .mov (.t 14)⟩])
 .ret))
theorem c42 : (Go.Proofs.Tryd.f42).body.bind (comp prog.P (3, (Go.Proofs.Tryd.f42).ntmps) lv42) = some m42 := by kernel_rfl
theorem r42 : resOK prog.P (Go.Proofs.Tryd.f42).results.toList = true := by kernel_rfl

/-- spec.l27Good -/
def lv43 : List (Nat × List Nat) := [(0, [1]), (1, [2])]
def m43 : MC :=
  (.seq
 (.reg false [1] [⟨(some 1), none, true, .box (.t 0)⟩,
 ⟨(some 2), none, false, .mov (.k (.d (.bool false)))⟩])
 (.seq
 (.reg false [2] [⟨(some 3), none, false, .fa 0 0 (.t 1)⟩,
 ⟨(some 4), none, false, .ld none (.t 3)⟩,
 ⟨(some 5), none, false, .bin .neq (.t 4) (.k (.d (.str [])))⟩,
 ⟨(some 6), none, false, .mov (.t 5)⟩,
 ⟨(some 7), (some (6, true)), false, .fa 0 0 (.t 1)⟩,
 ⟨(some 8), (some (6, true)), false, .ld none (.t 7)⟩,
 ⟨(some 9), (some (6, true)), true, .call 63 [(.t 8), (.k (.d (.int .i64 160)))]⟩,
 ⟨(some 10), none, false, .pick (.t 6) (.t 9) (.k (.d (.bool false)))⟩,
 ⟨(some 11), none, false, .mov (.t 10)⟩,
 ⟨(some 12), (some (11, true)), false, .fa 0 0 (.t 1)⟩,
 ⟨(some 13), (some (11, true)), false, .ld none (.t 12)⟩,
 ⟨(some 14), (some (11, true)), true, .call 64 [(.t 13), (.k (.d (.int .u8 64)))]⟩,
 ⟨(some 15), (some (11, true)), false, .un .not (.t 14)⟩,
 ⟨(some 16), none, false, .pick (.t 11) (.t 15) (.k (.d (.bool false)))⟩,
 ⟨(some 17), none, false, .mov (.t 16)⟩,
 ⟨(some 18), (some (17, true)), false, .fa 1 1 (.t 1)⟩,
 ⟨(some 19), (some (17, true)), false, .ld none (.t 18)⟩,
 ⟨(some 20), (some (17, true)), true, .call 63 [(.t 19), (.k (.d (.int .i64 200)))]⟩,
 ⟨(some 21), none, false, .pick (.t 17) (.t 20) (.k (.d (.bool false)))⟩,
 ⟨(some 2), none, false, .mov (.t 21)⟩])
 .ret))
theorem c43 : (Go.Proofs.Tryd.f43).body.bind (comp prog.P (1, (Go.Proofs.Tryd.f43).ntmps) lv43) = some m43 := by kernel_rfl
theorem r43 : resOK prog.P (Go.Proofs.Tryd.f43).results.toList = true := by kernel_rfl

/-- spec.l27Line -/
def lv44 : List (Nat × List Nat) := [(0, [0, 3]), (1, [4])]
def m44 : MC :=
  (.seq
 (.reg false [0, 3] [⟨(some 3), none, true, .box (.t 1)⟩,
 ⟨(some 4), none, false, .mov (.k (.d (.str [])))⟩])
 (.seq
 (.reg true [4] [⟨(some 5), none, false, .mov (.t 0)⟩,
 ⟨(some 6), none, false, .callP 66 [(.t 5)]⟩,
 ⟨(some 7), none, false, .bin .add (.t 6) (.k (.d (.str [32])))⟩,
 ⟨(some 8), none, false, .fa 0 0 (.t 3)⟩,
 ⟨(some 9), none, false, .ld none (.t 8)⟩,
 ⟨(some 10), none, false, .bin .add (.t 7) (.t 9)⟩,
 ⟨(some 11), none, false, .bin .add (.t 10) (.k (.d (.str [64])))⟩,
 ⟨(some 12), none, false, .fa 1 1 (.t 3)⟩,
 ⟨(some 13), none, false, .ld none (.t 12)⟩,
 ⟨(some 14), none, false, .bin .add (.t 11) (.t 13)⟩,
 ⟨(some 15), none, false, .callP 65 [(.t 14)]⟩,
 ⟨(some 16), none, false, .bin .add (.t 15) (.k (.d (.str [10])))⟩,
 ⟨(some 4), none, false, .mov (.t 16)⟩])
 .ret))
theorem c44 : (Go.Proofs.Tryd.f44).body.bind (comp prog.P (2, (Go.Proofs.Tryd.f44).ntmps) lv44) = some m44 := by kernel_rfl
theorem r44 : resOK prog.P (Go.Proofs.Tryd.f44).results.toList = true := by kernel_rfl

/-- impl.within -/
def lv45 : List (Nat × List Nat) := [(0, [0, 1, 2]), (1, [6])]
def m45 : MC :=
  (.seq
 (.reg false [0, 1, 2] [⟨(some 6), none, false, .mov (.k (.d (.bool false)))⟩])
 (.seq
 (.reg false [6] [⟨(some 7), none, false, .mov (.t 1)⟩,
 ⟨(some 8), none, false, .mov (.t 0)⟩,
 ⟨(some 9), none, false, .bin .leq (.t 7) (.t 8)⟩,
 ⟨(some 10), none, false, .mov (.t 9)⟩,
 ⟨(some 11), (some (10, true)), false, .mov (.t 0)⟩,
 ⟨(some 12), (some (10, true)), false, .mov (.t 2)⟩,
 ⟨(some 13), (some (10, true)), false, .bin .leq (.t 11) (.t 12)⟩,
 ⟨(some 14), none, false, .pick (.t 10) (.t 13) (.k (.d (.bool false)))⟩,
 ⟨(some 6), none, false, .mov (.t 14)⟩])
 .ret))
theorem c45 : (Go.Proofs.Tryd.f45).body.bind (comp prog.P (3, (Go.Proofs.Tryd.f45).ntmps) lv45) = some m45 := by kernel_rfl
theorem r45 : resOK prog.P (Go.Proofs.Tryd.f45).results.toList = true := by kernel_rfl

/-- impl.AppendChecksum -/
def lv46 : List (Nat × List Nat) := [(0, [0]), (1, [0, 11]), (2, [2, 3]), (3, [4]), (4, [4, 20]), (5, [2, 3]), (6, [2, 3])]
def m46 : MC :=
  (.seq
 (.reg false [0] [⟨(some 2), none, false, .mov (.k (.d (.str [])))⟩,
 ⟨(some 3), none, false, .mov (.k (.d (.bool false)))⟩])
 (.seq
 (.seq
 (.reg false [0, 11] [⟨(some 5), none, false, .mov (.t 0)⟩,
 ⟨(some 6), none, false, .len true (.t 5)⟩,
 ⟨(some 7), none, false, .bin .gtr (.t 6) (.k (.d (.int .i64 4000)))⟩,
 ⟨(some 8), none, false, .mov (.t 7)⟩,
 ⟨(some 9), (some (8, false)), false, .mov (.t 0)⟩,
 ⟨(some 10), (some (8, false)), true, .call 62 [(.t 9), (.k (.d (.str [35])))]⟩,
 ⟨(some 11), none, false, .pick (.t 8) (.k (.d (.bool true))) (.t 10)⟩])
 (.cond (.t 11)
 (.seq
 (.reg false [2, 3] [⟨(some 2), none, false, .mov (.k (.d (.str [])))⟩,
 ⟨(some 3), none, false, .mov (.k (.d (.bool false)))⟩])
 .ret)
 .skip))
 (.seq
 (.reg false [4] [⟨(some 12), none, false, .mov (.t 0)⟩,
 ⟨(some 13), none, false, .bin .add (.t 12) (.k (.d (.str [35])))⟩,
 ⟨(some 14), none, false, .mov (.t 0)⟩,
 ⟨(some 15), none, true, .call 67 [(.t 14)]⟩,
 ⟨(some 16), none, true, .call 47 [(.t 15)]⟩,
 ⟨(some 17), none, false, .bin .add (.t 13) (.t 16)⟩,
 ⟨(some 4), none, false, .mov (.t 17)⟩])
 (.seq
 (.seq
 (.reg false [4, 20] [⟨(some 18), none, false, .mov (.t 4)⟩,
 ⟨(some 19), none, false, .len true (.t 18)⟩,
 ⟨(some 20), none, false, .bin .gtr (.t 19) (.k (.d (.int .i64 4000)))⟩])
 (.cond (.t 20)
 (.seq
 (.reg false [2, 3] [⟨(some 2), none, false, .mov (.k (.d (.str [])))⟩,
 ⟨(some 3), none, false, .mov (.k (.d (.bool false)))⟩])
 .ret)
 .skip))
 (.seq
 (.reg false [2, 3] [⟨(some 21), none, false, .mov (.t 4)⟩,
 ⟨(some 2), none, false, .mov (.t 21)⟩,
 ⟨(some 3), none, false, .mov (.k (.d (.bool true)))⟩])
 .ret)))))
theorem c46 : (Go.Proofs.Tryd.f46).body.bind (comp prog.P (1, (Go.Proofs.Tryd.f46).ntmps) lv46) = some m46 := by kernel_rfl
theorem r46 : resOK prog.P (Go.Proofs.Tryd.f46).results.toList = true := by kernel_rfl

/-- impl.decimal -/
def lv47 : List (Nat × List Nat) := [(0, [0]), (1, [2])]
def m47 : MC :=
  (.seq
 (.reg false [0] [⟨(some 2), none, false, .mov (.k (.d (.str [])))⟩])
 (.seq
 (.reg false [2] [⟨(some 3), none, false, .mov (.t 0)⟩,
 ⟨(some 4), none, true, .call 68 [(.t 3)]⟩,
 ⟨(some 2), none, false, .mov (.t 4)⟩])
 .ret))
theorem c47 : (Go.Proofs.Tryd.f47).body.bind (comp prog.P (1, (Go.Proofs.Tryd.f47).ntmps) lv47) = some m47 := by kernel_rfl
theorem r47 : resOK prog.P (Go.Proofs.Tryd.f47).results.toList = true := by kernel_rfl

/-- impl.isPlain -/
def lv61 : List (Nat × List Nat) := [(0, [0]), (1, [0, 5, 6]), (2, [0, 5, 6, 7]), (3, [0, 3, 5, 6]), (4, [0, 5, 6, 24]), (5, [2]), (6, [0, 5, 6]), (7, [2])]
def m61 : MC :=
  (.seq
 (.reg false [0] [⟨(some 2), none, false, .mov (.k (.d (.bool false)))⟩])
 (.seq
 (.seq
 (.reg false [0, 5, 6] [⟨(some 4), none, false, .mov (.t 0)⟩,
 ⟨(some 5), none, false, .len true (.t 4)⟩,
 ⟨(some 6), none, false, .mov (.k (.d (.int .i64 0)))⟩])
 (.block 0
 (.loop
 (.seq
 (.reg false [0, 5, 6, 7] [⟨(some 7), none, false, .bin .lss (.t 6) (.t 5)⟩])
 (.seq
 (.cond (.t 7)
 .skip
 (.exit 0))
 (.seq
 (.block 1
 (.seq
 (.reg false [0, 3, 5, 6] [⟨(some 8), none, false, .mov (.t 6)⟩,
 ⟨(some 3), none, false, .mov (.t 8)⟩])
 (.seq
 (.reg false [0, 5, 6, 24] [⟨(some 9), none, false, .mov (.t 0)⟩,
 ⟨(some 10), none, false, .mov (.t 3)⟩,
 ⟨(some 11), none, false, .ix (.t 9) (.t 10)⟩,
 ⟨(some 12), none, false, .bin .lss (.t 11) (.k (.d (.int .u8 32)))⟩,
 ⟨(some 13), none, false, .mov (.t 12)⟩,
 ⟨(some 14), (some (13, false)), false, .mov (.t 0)⟩,
 ⟨(some 15), (some (13, false)), false, .mov (.t 3)⟩,
 ⟨(some 16), (some (13, false)), false, .ix (.t 14) (.t 15)⟩,
 ⟨(some 17), (some (13, false)), false, .bin .gtr (.t 16) (.k (.d (.int .u8 126)))⟩,
 ⟨(some 18), none, false, .pick (.t 13) (.k (.d (.bool true))) (.t 17)⟩,
 ⟨(some 19), none, false, .mov (.t 18)⟩,
 ⟨(some 20), (some (19, false)), false, .mov (.t 0)⟩,
 ⟨(some 21), (some (19, false)), false, .mov (.t 3)⟩,
 ⟨(some 22), (some (19, false)), false, .ix (.t 20) (.t 21)⟩,
 ⟨(some 23), (some (19, false)), false, .bin .eql (.t 22) (.k (.d (.int .u8 35)))⟩,
 ⟨(some 24), none, false, .pick (.t 19) (.k (.d (.bool true))) (.t 23)⟩])
 (.cond (.t 24)
 (.seq
 (.reg false [2] [⟨(some 2), none, false, .mov (.k (.d (.bool false)))⟩])
 .ret)
 .skip))))
 (.reg false [0, 5, 6] [⟨(some 25), none, false, .bin .add (.t 6) (.k (.d (.int .i64 1)))⟩,
 ⟨(some 6), none, false, .mov (.t 25)⟩])))))))
 (.seq
 (.reg false [2] [⟨(some 2), none, false, .mov (.k (.d (.bool true)))⟩])
 .ret)))
theorem c61 : (Go.Proofs.Tryd.f61).body.bind (comp prog.P (1, (Go.Proofs.Tryd.f61).ntmps) lv61) = some m61 := by kernel_rfl
theorem r61 : resOK prog.P (Go.Proofs.Tryd.f61).results.toList = true := by kernel_rfl

/-- spec.l27Plain -/
def lv63 : List (Nat × List Nat) := [(0, [0, 1]), (1, [0, 1, 5]), (2, [0, 1, 5, 9]), (3, [0, 1, 5]), (4, [0, 1, 5, 23]), (5, [4]), (6, [4])]
def m63 : MC :=
  (.seq
 (.reg false [0, 1] [⟨(some 4), none, false, .mov (.k (.d (.bool false)))⟩])
 (.seq
 (.seq
 (.reg false [0, 1, 5] [⟨(some 5), none, false, .mov (.k (.d (.int .i64 0)))⟩])
 (.block 0
 (.loop
 (.seq
 (.seq
 (.reg false [0, 1, 5, 9] [⟨(some 6), none, false, .mov (.t 5)⟩,
 ⟨(some 7), none, false, .mov (.t 0)⟩,
 ⟨(some 8), none, false, .len true (.t 7)⟩,
 ⟨(some 9), none, false, .bin .lss (.t 6) (.t 8)⟩])
 (.cond (.t 9)
 .skip
 (.exit 0)))
 (.seq
 (.block 1
 (.seq
 (.reg false [0, 1, 5, 23] [⟨(some 12), none, false, .mov (.t 0)⟩,
 ⟨(some 13), none, false, .mov (.t 5)⟩,
 ⟨(some 14), none, false, .ix (.t 12) (.t 13)⟩,
 ⟨(some 15), none, false, .conv .i64 (.t 14)⟩,
 ⟨(some 16), none, true, .call 42 [(.t 15), (.k (.d (.int .i64 32))), (.k (.d (.int .i64 126)))]⟩,
 ⟨(some 17), none, false, .un .not (.t 16)⟩,
 ⟨(some 18), none, false, .mov (.t 17)⟩,
 ⟨(some 19), (some (18, false)), false, .mov (.t 0)⟩,
 ⟨(some 20), (some (18, false)), false, .mov (.t 5)⟩,
 ⟨(some 21), (some (18, false)), false, .ix (.t 19) (.t 20)⟩,
 ⟨(some 22), (some (18, false)), false, .bin .eql (.t 21) (.k (.d (.int .u8 35)))⟩,
 ⟨(some 23), none, false, .pick (.t 18) (.k (.d (.bool true))) (.t 22)⟩])
 (.cond (.t 23)
 (.seq
 (.reg false [4] [⟨(some 4), none, false, .mov (.k (.d (.bool false)))⟩])
 .ret)
 .skip)))
 (.reg false [0, 1, 5] [⟨(some 10), none, false, .mov (.t 5)⟩,
 ⟨(some 11), none, false, .bin .add (.t 10) (.k (.d (.int .i64 1)))⟩,
 ⟨(some 5), none, false, .mov (.t 11)⟩]))))))
 (.seq
 (.reg false [4] [⟨(some 24), none, false, .mov (.t 0)⟩,
 ⟨(some 25), none, false, .len true (.t 24)⟩,
 ⟨(some 26), none, false, .mov (.t 1)⟩,
 ⟨(some 27), none, false, .bin .leq (.t 25) (.t 26)⟩,
 ⟨(some 4), none, false, .mov (.t 27)⟩])
 .ret)))
theorem c63 : (Go.Proofs.Tryd.f63).body.bind (comp prog.P (2, (Go.Proofs.Tryd.f63).ntmps) lv63) = some m63 := by kernel_rfl
theorem r63 : resOK prog.P (Go.Proofs.Tryd.f63).results.toList = true := by kernel_rfl

/-- spec.l1Stands -/
def lv64 : List (Nat × List Nat) := [(0, [0, 1]), (1, [0, 1, 5]), (2, [0, 1, 5, 9]), (3, [0, 1, 5]), (4, [0, 1, 5, 16]), (5, [4]), (6, [4])]
def m64 : MC :=
  (.seq
 (.reg false [0, 1] [⟨(some 4), none, false, .mov (.k (.d (.bool false)))⟩])
 (.seq
 (.seq
 (.reg false [0, 1, 5] [⟨(some 5), none, false, .mov (.k (.d (.int .i64 0)))⟩])
 (.block 0
 (.loop
 (.seq
 (.seq
 (.reg false [0, 1, 5, 9] [⟨(some 6), none, false, .mov (.t 5)⟩,
 ⟨(some 7), none, false, .mov (.t 0)⟩,
 ⟨(some 8), none, false, .len true (.t 7)⟩,
 ⟨(some 9), none, false, .bin .lss (.t 6) (.t 8)⟩])
 (.cond (.t 9)
 .skip
 (.exit 0)))
 (.seq
 (.block 1
 (.seq
 (.reg false [0, 1, 5, 16] [⟨(some 12), none, false, .mov (.t 0)⟩,
 ⟨(some 13), none, false, .mov (.t 5)⟩,
 ⟨(some 14), none, false, .ix (.t 12) (.t 13)⟩,
 ⟨(some 15), none, false, .mov (.t 1)⟩,
 ⟨(some 16), none, false, .bin .eql (.t 14) (.t 15)⟩])
 (.cond (.t 16)
 (.seq
 (.reg false [4] [⟨(some 4), none, false, .mov (.k (.d (.bool true)))⟩])
 .ret)
 .skip)))
 (.reg false [0, 1, 5] [⟨(some 10), none, false, .mov (.t 5)⟩,
 ⟨(some 11), none, false, .bin .add (.t 10) (.k (.d (.int .i64 1)))⟩,
 ⟨(some 5), none, false, .mov (.t 11)⟩]))))))
 (.seq
 (.reg false [4] [⟨(some 4), none, false, .mov (.k (.d (.bool false)))⟩])
 .ret)))
theorem c64 : (Go.Proofs.Tryd.f64).body.bind (comp prog.P (2, (Go.Proofs.Tryd.f64).ntmps) lv64) = some m64 := by kernel_rfl
theorem r64 : resOK prog.P (Go.Proofs.Tryd.f64).results.toList = true := by kernel_rfl

/-- spec.l1Seal -/
def lv65 : List (Nat × List Nat) := [(0, [0]), (1, [2])]
def m65 : MC :=
  (.seq
 (.reg false [0] [⟨(some 2), none, false, .mov (.k (.d (.str [])))⟩])
 (.seq
 (.reg false [2] [⟨(some 3), none, false, .mov (.t 0)⟩,
 ⟨(some 4), none, false, .bin .add (.t 3) (.k (.d (.str [35])))⟩,
 ⟨(some 5), none, false, .mov (.t 0)⟩,
 ⟨(some 6), none, true, .call 76 [(.t 5)]⟩,
 ⟨(some 7), none, true, .call 66 [(.t 6)]⟩,
 ⟨(some 8), none, false, .bin .add (.t 4) (.t 7)⟩,
 ⟨(some 2), none, false, .mov (.t 8)⟩])
 .ret))
theorem c65 : (Go.Proofs.Tryd.f65).body.bind (comp prog.P (1, (Go.Proofs.Tryd.f65).ntmps) lv65) = some m65 := by kernel_rfl
theorem r65 : resOK prog.P (Go.Proofs.Tryd.f65).results.toList = true := by kernel_rfl

/-- spec.l1Num -/
def lv66 : List (Nat × List Nat) := [(0, [0]), (1, [0, 4]), (2, [2]), (3, [0, 10]), (4, [2]), (5, [2])]
def m66 : MC :=
  (.seq
 (.reg false [0] [⟨(some 2), none, false, .mov (.k (.d (.str [])))⟩])
 (.seq
 (.seq
 (.reg false [0, 4] [⟨(some 3), none, false, .mov (.t 0)⟩,
 ⟨(some 4), none, false, .bin .lss (.t 3) (.k (.d (.int .i64 0)))⟩])
 (.cond (.t 4)
 (.seq
 (.reg false [2] [⟨(some 5), none, false, .mov (.t 0)⟩,
 ⟨(some 6), none, false, .un .neg (.t 5)⟩,
 ⟨(some 7), none, true, .call 66 [(.t 6)]⟩,
 ⟨(some 8), none, false, .bin .add (.k (.d (.str [45]))) (.t 7)⟩,
 ⟨(some 2), none, false, .mov (.t 8)⟩])
 .ret)
 .skip))
 (.seq
 (.seq
 (.reg false [0, 10] [⟨(some 9), none, false, .mov (.t 0)⟩,
 ⟨(some 10), none, false, .bin .lss (.t 9) (.k (.d (.int .i64 10)))⟩])
 (.cond (.t 10)
 (.seq
 (.reg false [2] [⟨(some 11), none, false, .mov (.t 0)⟩,
 ⟨(some 12), none, false, .mov (.t 0)⟩,
 ⟨(some 13), none, false, .bin .add (.t 12) (.k (.d (.int .i64 1)))⟩,
 ⟨(some 14), none, false, .sls (.k (.d (.str [48, 49, 50, 51, 52, 53, 54, 55, 56, 57]))) (some (.t 11)) (some (.t 13))⟩,
 ⟨(some 2), none, false, .mov (.t 14)⟩])
 .ret)
 .skip))
 (.seq
 (.reg true [2] [⟨(some 15), none, false, .mov (.t 0)⟩,
 ⟨(some 16), none, false, .bin .quo (.t 15) (.k (.d (.int .i64 10)))⟩,
 ⟨(some 17), none, false, .callP 66 [(.t 16)]⟩,
 ⟨(some 18), none, false, .mov (.t 0)⟩,
 ⟨(some 19), none, false, .bin .rem (.t 18) (.k (.d (.int .i64 10)))⟩,
 ⟨(some 20), none, false, .mov (.t 0)⟩,
 ⟨(some 21), none, false, .bin .rem (.t 20) (.k (.d (.int .i64 10)))⟩,
 ⟨(some 22), none, false, .bin .add (.t 21) (.k (.d (.int .i64 1)))⟩,
 ⟨(some 23), none, false, .sls (.k (.d (.str [48, 49, 50, 51, 52, 53, 54, 55, 56, 57]))) (some (.t 19)) (some (.t 22))⟩,
 ⟨(some 24), none, false, .bin .add (.t 17) (.t 23)⟩,
 ⟨(some 2), none, false, .mov (.t 24)⟩])
 .ret))))
theorem c66 : (Go.Proofs.Tryd.f66).body.bind (comp prog.P (1, (Go.Proofs.Tryd.f66).ntmps) lv66) = some m66 := by kernel_rfl
theorem r66 : resOK prog.P (Go.Proofs.Tryd.f66).results.toList = true := by kernel_rfl

/-- impl.checksum -/
def lv67 : List (Nat × List Nat) := [(0, [0]), (1, [0, 3]), (2, [0, 3, 6, 7]), (3, [0, 3, 6, 7, 8]), (4, [0, 3, 4, 6, 7]), (5, [0, 3, 6, 7]), (6, [0, 3, 6, 7]), (7, [2])]
def m67 : MC :=
  (.seq
 (.reg false [0] [⟨(some 2), none, false, .mov (.k (.d (.int .i64 0)))⟩])
 (.seq
 (.reg false [0, 3] [⟨(some 3), none, false, .mov (.k (.d (.int .i64 7)))⟩])
 (.seq
 (.seq
 (.reg false [0, 3, 6, 7] [⟨(some 5), none, false, .mov (.t 0)⟩,
 ⟨(some 6), none, false, .len true (.t 5)⟩,
 ⟨(some 7), none, false, .mov (.k (.d (.int .i64 0)))⟩])
 (.block 0
 (.loop
 (.seq
 (.reg false [0, 3, 6, 7, 8] [⟨(some 8), none, false, .bin .lss (.t 7) (.t 6)⟩])
 (.seq
 (.cond (.t 8)
 .skip
 (.exit 0))
 (.seq
 (.block 1
 (.seq
 (.reg false [0, 3, 4, 6, 7] [⟨(some 9), none, false, .mov (.t 7)⟩,
 ⟨(some 4), none, false, .mov (.t 9)⟩])
 (.reg false [0, 3, 6, 7] [⟨(some 10), none, false, .mov (.t 3)⟩,
 ⟨(some 11), none, false, .bin .mul (.k (.d (.int .i64 41))) (.t 10)⟩,
 ⟨(some 12), none, false, .mov (.t 0)⟩,
 ⟨(some 13), none, false, .mov (.t 4)⟩,
 ⟨(some 14), none, false, .ix (.t 12) (.t 13)⟩,
 ⟨(some 15), none, false, .conv .i64 (.t 14)⟩,
 ⟨(some 16), none, false, .bin .add (.t 11) (.t 15)⟩,
 ⟨(some 17), none, false, .bin .add (.t 16) (.k (.d (.int .i64 1)))⟩,
 ⟨(some 18), none, false, .bin .rem (.t 17) (.k (.d (.int .i64 999979)))⟩,
 ⟨(some 3), none, false, .mov (.t 18)⟩])))
 (.reg false [0, 3, 6, 7] [⟨(some 19), none, false, .bin .add (.t 7) (.k (.d (.int .i64 1)))⟩,
 ⟨(some 7), none, false, .mov (.t 19)⟩])))))))
 (.seq
 (.reg false [2] [⟨(some 20), none, false, .mov (.t 3)⟩,
 ⟨(some 2), none, false, .mov (.t 20)⟩])
 .ret))))
theorem c67 : (Go.Proofs.Tryd.f67).body.bind (comp prog.P (1, (Go.Proofs.Tryd.f67).ntmps) lv67) = some m67 := by kernel_rfl
theorem r67 : resOK prog.P (Go.Proofs.Tryd.f67).results.toList = true := by kernel_rfl

/-- spec.l1Sum -/
def lv76 : List (Nat × List Nat) := [(0, [0]), (1, [0, 3]), (2, [0, 3, 4]), (3, [0, 3, 4, 8]), (4, [0, 3, 4]), (5, [0, 3, 4]), (6, [2])]
def m76 : MC :=
  (.seq
 (.reg false [0] [⟨(some 2), none, false, .mov (.k (.d (.int .i64 0)))⟩])
 (.seq
 (.reg false [0, 3] [⟨(some 3), none, false, .mov (.k (.d (.int .i64 7)))⟩])
 (.seq
 (.seq
 (.reg false [0, 3, 4] [⟨(some 4), none, false, .mov (.k (.d (.int .i64 0)))⟩])
 (.block 0
 (.loop
 (.seq
 (.seq
 (.reg false [0, 3, 4, 8] [⟨(some 5), none, false, .mov (.t 4)⟩,
 ⟨(some 6), none, false, .mov (.t 0)⟩,
 ⟨(some 7), none, false, .len true (.t 6)⟩,
 ⟨(some 8), none, false, .bin .lss (.t 5) (.t 7)⟩])
 (.cond (.t 8)
 .skip
 (.exit 0)))
 (.seq
 (.block 1
 (.reg false [0, 3, 4] [⟨(some 11), none, false, .mov (.t 3)⟩,
 ⟨(some 12), none, false, .bin .mul (.k (.d (.int .i64 41))) (.t 11)⟩,
 ⟨(some 13), none, false, .mov (.t 0)⟩,
 ⟨(some 14), none, false, .mov (.t 4)⟩,
 ⟨(some 15), none, false, .ix (.t 13) (.t 14)⟩,
 ⟨(some 16), none, false, .conv .i64 (.t 15)⟩,
 ⟨(some 17), none, false, .bin .add (.t 12) (.t 16)⟩,
 ⟨(some 18), none, false, .bin .add (.t 17) (.k (.d (.int .i64 1)))⟩,
 ⟨(some 19), none, false, .bin .rem (.t 18) (.k (.d (.int .i64 999979)))⟩,
 ⟨(some 3), none, false, .mov (.t 19)⟩]))
 (.reg false [0, 3, 4] [⟨(some 9), none, false, .mov (.t 4)⟩,
 ⟨(some 10), none, false, .bin .add (.t 9) (.k (.d (.int .i64 1)))⟩,
 ⟨(some 4), none, false, .mov (.t 10)⟩]))))))
 (.seq
 (.reg false [2] [⟨(some 20), none, false, .mov (.t 3)⟩,
 ⟨(some 2), none, false, .mov (.t 20)⟩])
 .ret))))
theorem c76 : (Go.Proofs.Tryd.f76).body.bind (comp prog.P (1, (Go.Proofs.Tryd.f76).ntmps) lv76) = some m76 := by kernel_rfl
theorem r76 : resOK prog.P (Go.Proofs.Tryd.f76).results.toList = true := by kernel_rfl

end Go.Pe.Tryd
