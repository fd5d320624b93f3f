/- The law of YearsToClear, walked. -/
import Derived.Test.YtepedloehigedaaYr8
set_option maxRecDepth 100000
set_option maxHeartbeats 4000000
set_option linter.all false
namespace Go.Pe.Try
open Go.Proofs.Try
theorem ytc_form (stock : Int) (xs : List Row) : ∃ v b, ytc stock xs = [.int .i64 v, .bool b] := by
  unfold ytc
  split
  · split
    · split
      · exact ⟨_, _, rfl⟩
      · exact ⟨_, _, rfl⟩
    · exact ⟨_, _, rfl⟩
  · exact ⟨_, _, rfl⟩
theorem law5_fn (stock : Int) (xs : List Row) (hs : InR .i64 stock) (hm : xs.length ≤ maxLen) : Fn prog 5 [.int .i64 stock, .sl false 5 (rowsD xs)] (fun rs => rs = [.bool true]) := by
  refine Fn_of' (fn := f5) (by exact func5) c5 r5 (n := 44) (by rfl) (rv := [.tmp 4]) (by rfl) (by simp) ?_
  unfold m5
  try simp only [↓wA0, ↓wA1, ↓wA2, ↓wA3, ↓wA4, wB, Option.some.injEq, List.getElem?_cons_zero, List.getElem?_cons_succ, List.getElem?_nil, List.set_cons_zero, List.set_cons_succ, List.length_cons, List.length_nil, List.length_append, List.cons_append, List.nil_append, List.append_nil, List.any_cons, List.any_nil, List.all_cons, List.all_nil, List.map_cons, List.map_nil, if_true, if_false, beq_self_eq_true, ne_eq, eq_self, beq_iff_eq, List.append_assoc, ↓onNck, ↓look, ↓putE, evL, argsS, partsS, firstS, mkOb, evF, evS, evOO, initE, keepE, boxOf, valOf, slOf, stOf, lenOf, killL, kill, killO, refA, ref0, refV, addRes, resS, resSV, D.pre, D.nth, D.size, D.len, dget, doff, dset, D.setN, D.noOwn, D.unown, D.app, ofL, List.replicate, Nat.reduceEqDiff, Nat.reduceAdd, Nat.reduceSub, reduceIte, reduceCtorEq, Nat.reduceBEq, sz25]
  refine call_det (szYearRowS_fn xs 1048576 (by omega) (by omega) hm) rfl rfl ?_
  by_cases hlen : xs.length ≤ 1048576
  · have e1 : (if (1048576 : Int) - xs.length < 0 then (-1 : Int) else 1048576 - xs.length) = 1048576 - xs.length := if_neg (by omega)
    have e2 : decide ((1048576 : Int) - xs.length < 0) = false := decide_eq_false (by omega)
    obtain ⟨v, b, hy⟩ := ytc_form stock xs
    have hS := specYearsToClear_fn stock xs hs hlen
    have hI := yearsToClear_fn stock xs hlen
    rw [hy] at hS hI
    repeat' (first
        | (simp only [e1, e2, rows_noOwn, ↓wA0, ↓wA1, ↓wA2, ↓wA3, ↓wA4, wB, Option.some.injEq, List.getElem?_cons_zero, List.getElem?_cons_succ, List.getElem?_nil, List.set_cons_zero, List.set_cons_succ, List.length_cons, List.length_nil, List.length_append, List.cons_append, List.nil_append, List.append_nil, List.any_cons, List.any_nil, List.all_cons, List.all_nil, List.map_cons, List.map_nil, if_true, if_false, beq_self_eq_true, ne_eq, eq_self, beq_iff_eq, List.append_assoc, ↓onNck, ↓look, ↓putE, evL, argsS, partsS, firstS, mkOb, evF, evS, evOO, initE, keepE, boxOf, valOf, slOf, stOf, lenOf, killL, kill, killO, refA, ref0, refV, addRes, resS, resSV, D.pre, D.nth, D.size, D.len, dget, doff, dset, D.setN, D.noOwn, D.unown, D.app, ofL, List.replicate, Nat.reduceEqDiff, Nat.reduceAdd, Nat.reduceSub, reduceIte, reduceCtorEq, Nat.reduceBEq, sz25])
        | (refine call_det (toYearRowS_fn xs hlen) rfl rfl ?_)
        | (refine call_det hS (by simp [argsD, argD, valOf, D.unown, rows_unown]) rfl ?_)
        | (refine call_det hI (by simp [argsD, argD, valOf, D.unown, rows_unown]) rfl ?_)
        | (refine call_det (eqYearRowS_refl xs hlen) (by simp [argsD, argD, valOf, D.unown, rows_unown]) rfl ?_)
        | (refine execG_split (fun h => ?_) (fun h => ?_) <;> simp only [h])
        | (refine execC_split (fun h => ?_) (fun h => ?_) <;> (try simp only [h]))
        | (refine onPick_split (fun h => ?_) (fun h => ?_) <;> (try simp only [h])))
    all_goals simp_all
  · have e1 : (if (1048576 : Int) - xs.length < 0 then (-1 : Int) else 1048576 - xs.length) = -1 := if_pos (by omega)
    have e2 : decide ((-1 : Int) < 0) = true := by decide
    try simp only [e1, e2, ↓wA0, ↓wA1, ↓wA2, ↓wA3, ↓wA4, wB, Option.some.injEq, List.getElem?_cons_zero, List.getElem?_cons_succ, List.getElem?_nil, List.set_cons_zero, List.set_cons_succ, List.length_cons, List.length_nil, List.length_append, List.cons_append, List.nil_append, List.append_nil, List.any_cons, List.any_nil, List.all_cons, List.all_nil, List.map_cons, List.map_nil, if_true, if_false, beq_self_eq_true, ne_eq, eq_self, beq_iff_eq, List.append_assoc, ↓onNck, ↓look, ↓putE, evL, argsS, partsS, firstS, mkOb, evF, evS, evOO, initE, keepE, boxOf, valOf, slOf, stOf, lenOf, killL, kill, killO, refA, ref0, refV, addRes, resS, resSV, D.pre, D.nth, D.size, D.len, dget, doff, dset, D.setN, D.noOwn, D.unown, D.app, ofL, List.replicate, Nat.reduceEqDiff, Nat.reduceAdd, Nat.reduceSub, reduceIte, reduceCtorEq, Nat.reduceBEq, sz25]
theorem law5 (x0 x1 : D) (h0 : Typed (.int .i64) x0) (h1 : Typed (.sl 5 rowSh) x1) : Fn prog 5 [x0, x1] (fun rs => rs = [.bool true]) :=
  stockRows (P := fun a b => Fn prog 5 [a, b] (fun rs => rs = [.bool true])) law5_fn x0 x1 h0 h1
end Go.Pe.Try
