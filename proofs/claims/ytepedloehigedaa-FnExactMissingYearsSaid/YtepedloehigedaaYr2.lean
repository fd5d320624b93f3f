/- The law of IsYearRow, walked. -/
import Derived.Test.YtepedloehigedaaYr1
import Derived.Test.YtepedloehigedaaPeC
set_option maxRecDepth 100000
set_option maxHeartbeats 4000000
set_option linter.all false
namespace Go.Pe.Try
open Go.Proofs.Try
theorem toYearRow_fn (r : Row) : Fn prog 12 [r.d] (fun rs => rs = [r.d]) := by
  refine Fn_of' (fn := f12) (by exact func12) c12 r12 (n := 20) (by rfl) (rv := [.cell 2 25]) (by rfl) (by simp) ?_
  unfold m12
  simp only [Row.d]
  repeat' (first
      | (simp only [↓wA0, ↓wA1, ↓wA2, ↓wA3, ↓wA4, wB, Option.some.injEq, List.getElem?_cons_zero, List.getElem?_cons_succ, List.getElem?_nil, List.set_cons_zero, List.set_cons_succ, List.length_cons, List.length_nil, List.length_append, List.cons_append, List.nil_append, List.append_nil, List.any_cons, List.any_nil, List.all_cons, List.all_nil, List.map_cons, List.map_nil, if_true, if_false, beq_self_eq_true, ne_eq, eq_self, beq_iff_eq, List.append_assoc, ↓onNck, ↓look, ↓putE, evL, argsS, partsS, firstS, mkOb, evF, evS, evOO, initE, keepE, boxOf, valOf, slOf, stOf, lenOf, killL, kill, killO, refA, ref0, refV, addRes, resS, resSV, D.pre, D.nth, D.size, D.len, dget, doff, dset, D.setN, D.noOwn, D.unown, D.app, ofL, List.replicate, Nat.reduceEqDiff, Nat.reduceAdd, Nat.reduceSub, reduceIte, reduceCtorEq, Nat.reduceBEq, sz25])
      | (refine execG_split (fun h => ?_) (fun h => ?_) <;> simp only [h])
      | (refine execC_split (fun h => ?_) (fun h => ?_) <;> (try simp only [h]))
      | (refine onPick_split (fun h => ?_) (fun h => ?_) <;> (try simp only [h])))
theorem law3_fn (r : Row) : Fn prog 3 [r.d] (fun rs => rs = [.bool true]) := by
  refine Fn_of' (fn := f3) (by exact func3) c3 r3 (n := 14) (by rfl) (rv := [.tmp 2]) (by rfl) (by simp) ?_
  unfold m3
  simp only [Row.d]
  repeat' (first
      | (simp only [Row.d, ↓wA0, ↓wA1, ↓wA2, ↓wA3, ↓wA4, wB, Option.some.injEq, List.getElem?_cons_zero, List.getElem?_cons_succ, List.getElem?_nil, List.set_cons_zero, List.set_cons_succ, List.length_cons, List.length_nil, List.length_append, List.cons_append, List.nil_append, List.append_nil, List.any_cons, List.any_nil, List.all_cons, List.all_nil, List.map_cons, List.map_nil, if_true, if_false, beq_self_eq_true, ne_eq, eq_self, beq_iff_eq, List.append_assoc, ↓onNck, ↓look, ↓putE, evL, argsS, partsS, firstS, mkOb, evF, evS, evOO, initE, keepE, boxOf, valOf, slOf, stOf, lenOf, killL, kill, killO, refA, ref0, refV, addRes, resS, resSV, D.pre, D.nth, D.size, D.len, dget, doff, dset, D.setN, D.noOwn, D.unown, D.app, ofL, List.replicate, Nat.reduceEqDiff, Nat.reduceAdd, Nat.reduceSub, reduceIte, reduceCtorEq, Nat.reduceBEq, sz25])
      | (refine call_det (toYearRow_fn r) rfl rfl ?_)
      | (refine callP_det (toYearRow_fn r) rfl rfl ?_)
      | (refine call_det (specIsYearRow_fn r) rfl rfl ?_)
      | (refine callP_det (specIsYearRow_fn r) rfl rfl ?_)
      | (refine call_det (isYearRow_fn r) rfl rfl ?_)
      | (refine callP_det (isYearRow_fn r) rfl rfl ?_)
      | (refine execG_split (fun h => ?_) (fun h => ?_) <;> simp only [h])
      | (refine execC_split (fun h => ?_) (fun h => ?_) <;> (try simp only [h]))
      | (refine onPick_split (fun h => ?_) (fun h => ?_) <;> (try simp only [h])))
def rowSh : Sh := .st (.cons (.int .i64) (.cons (.int .i64) (.cons (.int .i64) (.cons (.int .i64) (.cons (.int .i64) .nil)))))
theorem inR_of {n : Int} (h : (Lit.int .i64 n).wf = true) : InR .i64 n := by
  simp only [Lit.wf, Bool.and_eq_true, decide_eq_true_eq] at h
  exact h
theorem row_of (x : D) (h : Typed rowSh x) : ∃ r : Row, x = r.d ∧ InR .i64 r.y ∧ InR .i64 r.m ∧ InR .i64 r.k ∧ InR .i64 r.x ∧ InR .i64 r.g := by
  obtain ⟨xs, rfl, y0, ys, rfl, ⟨a, rfl, ha⟩, y1, ys, rfl, ⟨b, rfl, hb⟩, y2, ys, rfl, ⟨c, rfl, hc⟩, y3, ys, rfl, ⟨d, rfl, hd⟩, y4, ys, rfl, ⟨e, rfl, he⟩, rfl⟩ := h
  exact ⟨⟨a, b, c, d, e⟩, rfl, inR_of ha, inR_of hb, inR_of hc, inR_of hd, inR_of he⟩
theorem law3 (x0 : D) (h0 : Typed rowSh x0) : Fn prog 3 [x0] (fun rs => rs = [.bool true]) := by
  obtain ⟨r, rfl, _⟩ := row_of x0 h0
  exact law3_fn r
end Go.Pe.Try
