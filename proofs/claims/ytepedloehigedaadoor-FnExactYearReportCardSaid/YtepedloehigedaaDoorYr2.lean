/- The law of IsYearRow, walked. -/
import Derived.Test.YtepedloehigedaaDoorYr1
import Derived.Test.YtepedloehigedaaDoorPeC
set_option maxRecDepth 100000
set_option maxHeartbeats 4000000
set_option linter.all false
namespace Go.Pe.Tryd
open Go.Proofs.Tryd
theorem toYearRow_fn (r : Row) : Fn prog 8 [r.d] (fun rs => rs = [r.d]) := by
  refine Fn_of' (fn := f8) (by exact func8) c8 r8 (n := 20) (by rfl) (rv := [.cell 2 26]) (by rfl) (by simp) ?_
  unfold m8
  simp only [Row.d]
  repeat' (first
      | (simp only [↓wA, ↓wC, wB, Nat.reduceEqDiff, Nat.reduceAdd, Nat.reduceSub, reduceIte, reduceCtorEq, Nat.reduceBEq, Nat.reduceLT, decide_true, sz26])
      | (refine execG_split (fun h => ?_) (fun h => ?_) <;> simp only [h])
      | (refine execC_split (fun h => ?_) (fun h => ?_) <;> (try simp only [h]))
      | (refine onPick_split (fun h => ?_) (fun h => ?_) <;> (try simp only [h])))
def rowSh : Sh := .st (.cons (.int .i64) (.cons (.int .i64) (.cons (.int .i64) (.cons (.int .i64) (.cons (.int .i64) .nil)))))
theorem inR_of {n : Int} (h : (Lit.int .i64 n).wf = true) : InR .i64 n := by
  simp only [Lit.wf, Bool.and_eq_true, decide_eq_true_eq] at h
  exact h
theorem row_of (x : D) (h : Typed rowSh x) : ∃ r : Row, x = r.d ∧ InR .i64 r.y ∧ InR .i64 r.m ∧ InR .i64 r.k ∧ InR .i64 r.x ∧ InR .i64 r.g := by
  obtain ⟨xs, rfl, y0, ys, rfl, ⟨a, rfl, ha⟩, y1, ys, rfl, ⟨b, rfl, hb⟩, y2, ys, rfl, ⟨c, rfl, hc⟩, y3, ys, rfl, ⟨d, rfl, hd⟩, y4, ys, rfl, ⟨e, rfl, he⟩, rfl⟩ := h
  exact ⟨⟨a, b, c, d, e⟩, rfl, inR_of ha, inR_of hb, inR_of hc, inR_of hd, inR_of he⟩
end Go.Pe.Tryd
