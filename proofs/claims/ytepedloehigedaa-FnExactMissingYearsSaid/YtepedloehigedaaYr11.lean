/- The law of LargestRest, walked. -/
import Derived.Test.YtepedloehigedaaYr10
set_option maxRecDepth 100000
set_option maxHeartbeats 4000000
set_option linter.all false
namespace Go.Pe.Try
open Go.Proofs.Try
theorem law6_of (stock : Int) (xs : List Row) (a b : Int) (c : Bool) (hlen : xs.length ≤ 1048576) (hS : Fn prog 21 [.int .i64 stock, .sl false 5 (rowsD xs)] (fun rs => rs = [.int .i64 a, .int .i64 b, .bool c])) (hI : Fn prog 22 [.int .i64 stock, .sl false 5 (rowsD xs)] (fun rs => rs = [.int .i64 a, .int .i64 b, .bool c])) :
    Fn prog 6 [.int .i64 stock, .sl false 5 (rowsD xs)] (fun rs => rs = [.bool true]) := by
  have hm : xs.length ≤ maxLen := Nat.le_trans hlen (by decide)
  have e1 : (if (1048576 : Int) - xs.length < 0 then (-1 : Int) else 1048576 - xs.length) = 1048576 - xs.length := if_neg (by omega)
  have e2 : decide ((1048576 : Int) - xs.length < 0) = false := decide_eq_false (by omega)
  refine Fn_of' (fn := f6) (by exact func6) c6 r6 (n := 53) (by rfl) (rv := [.tmp 4]) (by rfl) (by simp) ?_
  unfold m6
  try simp only [↓wA0, ↓wA1, ↓wA2, ↓wA3, ↓wA4, wB, Option.some.injEq, List.getElem?_cons_zero, List.getElem?_cons_succ, List.getElem?_nil, List.set_cons_zero, List.set_cons_succ, List.length_cons, List.length_nil, List.length_append, List.cons_append, List.nil_append, List.append_nil, List.any_cons, List.any_nil, List.all_cons, List.all_nil, List.map_cons, List.map_nil, if_true, if_false, beq_self_eq_true, ne_eq, eq_self, beq_iff_eq, List.append_assoc, ↓onNck, ↓look, ↓putE, evL, argsS, partsS, firstS, mkOb, evF, evS, evOO, initE, keepE, boxOf, valOf, slOf, stOf, lenOf, killL, kill, killO, refA, ref0, refV, addRes, resS, resSV, D.pre, D.nth, D.size, D.len, dget, doff, dset, D.setN, D.noOwn, D.unown, D.app, ofL, List.replicate, Nat.reduceEqDiff, Nat.reduceAdd, Nat.reduceSub, reduceIte, reduceCtorEq, Nat.reduceBEq, sz25]
  refine call_det (szYearRowS_fn xs 1048576 (by omega) (by omega) hm) rfl rfl ?_
  repeat' (first
      | (simp only [e1, e2, rows_noOwn, ↓wA0, ↓wA1, ↓wA2, ↓wA3, ↓wA4, wB, Option.some.injEq, List.getElem?_cons_zero, List.getElem?_cons_succ, List.getElem?_nil, List.set_cons_zero, List.set_cons_succ, List.length_cons, List.length_nil, List.length_append, List.cons_append, List.nil_append, List.append_nil, List.any_cons, List.any_nil, List.all_cons, List.all_nil, List.map_cons, List.map_nil, if_true, if_false, beq_self_eq_true, ne_eq, eq_self, beq_iff_eq, List.append_assoc, ↓onNck, ↓look, ↓putE, evL, argsS, partsS, firstS, mkOb, evF, evS, evOO, initE, keepE, boxOf, valOf, slOf, stOf, lenOf, killL, kill, killO, refA, ref0, refV, addRes, resS, resSV, D.pre, D.nth, D.size, D.len, dget, doff, dset, D.setN, D.noOwn, D.unown, D.app, ofL, List.replicate, Nat.reduceEqDiff, Nat.reduceAdd, Nat.reduceSub, reduceIte, reduceCtorEq, Nat.reduceBEq, sz25])
      | (refine call_det (toYearRowS_fn xs hlen) rfl rfl ?_)
      | (refine call_det hS (by simp [argsD, argD, valOf, D.unown, rows_unown]) rfl ?_)
      | (refine call_det hI (by simp [argsD, argD, valOf, D.unown, rows_unown]) rfl ?_)
      | (refine call_det (eqYearRowS_refl xs hlen) (by simp [argsD, argD, valOf, D.unown, rows_unown]) rfl ?_)
      | (refine execG_split (fun h => ?_) (fun h => ?_) <;> simp only [h])
      | (refine execC_split (fun h => ?_) (fun h => ?_) <;> (try simp only [h]))
      | (refine onPick_split (fun h => ?_) (fun h => ?_) <;> (try simp only [h])))
  all_goals simp_all
theorem law6_fn (stock : Int) (xs : List Row) (hs : InR .i64 stock) (hm : xs.length ≤ maxLen) : Fn prog 6 [.int .i64 stock, .sl false 5 (rowsD xs)] (fun rs => rs = [.bool true]) := by
  by_cases hlen : xs.length ≤ 1048576
  · by_cases hg : good stock xs = false ∨ xs.length = 0
    · exact law6_of stock xs 0 0 false hlen (specLargest_bad stock xs hs hlen hg) (largest_bad stock xs hlen hg)
    · have hg1 : good stock xs = true := by
        cases h : good stock xs with
        | true => rfl
        | false => exact absurd (Or.inl h) hg
      have hn : xs.length ≠ 0 := fun h => hg (.inr h)
      obtain ⟨b, m, hb⟩ := upTo_ex (v := rests stock xs) (xs.length - 1) (by rw [rests_len]; omega)
      rw [show xs.length - 1 + 1 = (rests stock xs).length by rw [rests_len]; omega] at hb
      exact law6_of stock xs _ _ _ hlen (specLargest_fn stock xs hs hlen hg1 hn b m hb) (largest_fn stock xs hlen hg1 hn b m hb)
  · have e1 : (if (1048576 : Int) - xs.length < 0 then (-1 : Int) else 1048576 - xs.length) = -1 := if_pos (by omega)
    have e2 : decide ((-1 : Int) < 0) = true := by decide
    refine Fn_of' (fn := f6) (by exact func6) c6 r6 (n := 53) (by rfl) (rv := [.tmp 4]) (by rfl) (by simp) ?_
    unfold m6
    try simp only [↓wA0, ↓wA1, ↓wA2, ↓wA3, ↓wA4, wB, Option.some.injEq, List.getElem?_cons_zero, List.getElem?_cons_succ, List.getElem?_nil, List.set_cons_zero, List.set_cons_succ, List.length_cons, List.length_nil, List.length_append, List.cons_append, List.nil_append, List.append_nil, List.any_cons, List.any_nil, List.all_cons, List.all_nil, List.map_cons, List.map_nil, if_true, if_false, beq_self_eq_true, ne_eq, eq_self, beq_iff_eq, List.append_assoc, ↓onNck, ↓look, ↓putE, evL, argsS, partsS, firstS, mkOb, evF, evS, evOO, initE, keepE, boxOf, valOf, slOf, stOf, lenOf, killL, kill, killO, refA, ref0, refV, addRes, resS, resSV, D.pre, D.nth, D.size, D.len, dget, doff, dset, D.setN, D.noOwn, D.unown, D.app, ofL, List.replicate, Nat.reduceEqDiff, Nat.reduceAdd, Nat.reduceSub, reduceIte, reduceCtorEq, Nat.reduceBEq, sz25]
    refine call_det (szYearRowS_fn xs 1048576 (by omega) (by omega) hm) rfl rfl ?_
    try simp only [e1, e2, ↓wA0, ↓wA1, ↓wA2, ↓wA3, ↓wA4, wB, Option.some.injEq, List.getElem?_cons_zero, List.getElem?_cons_succ, List.getElem?_nil, List.set_cons_zero, List.set_cons_succ, List.length_cons, List.length_nil, List.length_append, List.cons_append, List.nil_append, List.append_nil, List.any_cons, List.any_nil, List.all_cons, List.all_nil, List.map_cons, List.map_nil, if_true, if_false, beq_self_eq_true, ne_eq, eq_self, beq_iff_eq, List.append_assoc, ↓onNck, ↓look, ↓putE, evL, argsS, partsS, firstS, mkOb, evF, evS, evOO, initE, keepE, boxOf, valOf, slOf, stOf, lenOf, killL, kill, killO, refA, ref0, refV, addRes, resS, resSV, D.pre, D.nth, D.size, D.len, dget, doff, dset, D.setN, D.noOwn, D.unown, D.app, ofL, List.replicate, Nat.reduceEqDiff, Nat.reduceAdd, Nat.reduceSub, reduceIte, reduceCtorEq, Nat.reduceBEq, sz25]
theorem law6 (x0 x1 : D) (h0 : Typed (.int .i64) x0) (h1 : Typed (.sl 5 rowSh) x1) : Fn prog 6 [x0, x1] (fun rs => rs = [.bool true]) :=
  stockRows (P := fun a b => Fn prog 6 [a, b] (fun rs => rs = [.bool true])) law6_fn x0 x1 h0 h1
end Go.Pe.Try
