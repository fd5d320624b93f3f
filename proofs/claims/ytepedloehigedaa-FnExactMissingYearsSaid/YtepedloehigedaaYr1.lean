/- The walks of the small functions of the yearly rows. -/
import Derived.Test.YtepedloehigedaaPeC
import Derived.Test.YtepedloehigedaaMc1
import Derived.Test.YtepedloehigedaaMc2
import Derived.Test.YtepedloehigedaaMc3
import Derived.Test.YtepedloehigedaaMc4
set_option maxRecDepth 100000
set_option maxHeartbeats 4000000
set_option linter.all false
namespace Go.Pe.Try
open Go.Proofs.Try
def within (n a b : Int) : Bool := decide (a ≤ n) && decide (n ≤ b)
theorem within_fn (n a b : Int) : Fn prog 41 [.int .i64 n, .int .i64 a, .int .i64 b] (fun rs => rs = [.bool (within n a b)]) := by
  refine Fn_of' (fn := f41) (by exact func41) c41 r41 (n := 15) (by rfl) (rv := [.tmp 6]) (by rfl) (by simp) ?_
  unfold m41
  simp only [↓wA0, ↓wA1, ↓wA2, ↓wA3, ↓wA4, wB, Option.some.injEq, List.getElem?_cons_zero, List.getElem?_cons_succ, List.getElem?_nil, List.set_cons_zero, List.set_cons_succ, List.length_cons, List.length_nil, List.length_append, List.cons_append, List.nil_append, List.append_nil, List.any_cons, List.any_nil, List.all_cons, List.all_nil, List.map_cons, List.map_nil, if_true, if_false, beq_self_eq_true, ne_eq, eq_self, beq_iff_eq, List.append_assoc, ↓onNck, ↓look, ↓putE, evL, argsS, partsS, firstS, mkOb, evF, evS, evOO, initE, keepE, boxOf, valOf, slOf, stOf, lenOf, killL, kill, killO, refA, ref0, refV, addRes, resS, resSV, D.pre, D.nth, D.size, D.len, dget, doff, dset, D.setN, D.noOwn, D.unown, D.app, ofL, List.replicate, Nat.reduceEqDiff, Nat.reduceAdd, Nat.reduceSub, reduceIte, reduceCtorEq, Nat.reduceBEq, sz25]
  refine execG_split (fun h => ?_) (fun h => ?_) <;> simp only [h, ↓wA0, ↓wA1, ↓wA2, ↓wA3, ↓wA4, wB, Option.some.injEq, List.getElem?_cons_zero, List.getElem?_cons_succ, List.getElem?_nil, List.set_cons_zero, List.set_cons_succ, List.length_cons, List.length_nil, List.length_append, List.cons_append, List.nil_append, List.append_nil, List.any_cons, List.any_nil, List.all_cons, List.all_nil, List.map_cons, List.map_nil, if_true, if_false, beq_self_eq_true, ne_eq, eq_self, beq_iff_eq, List.append_assoc, ↓onNck, ↓look, ↓putE, evL, argsS, partsS, firstS, mkOb, evF, evS, evOO, initE, keepE, boxOf, valOf, slOf, stOf, lenOf, killL, kill, killO, refA, ref0, refV, addRes, resS, resSV, D.pre, D.nth, D.size, D.len, dget, doff, dset, D.setN, D.noOwn, D.unown, D.app, ofL, List.replicate, Nat.reduceEqDiff, Nat.reduceAdd, Nat.reduceSub, reduceIte, reduceCtorEq, Nat.reduceBEq, sz25]
  all_goals simp [within, h]
theorem l1In_fn (n a b : Int) : Fn prog 55 [.int .i64 n, .int .i64 a, .int .i64 b] (fun rs => rs = [.bool (within n a b)]) := by
  refine Fn_of' (fn := f55) (by exact func55) c55 r55 (n := 15) (by rfl) (rv := [.tmp 6]) (by rfl) (by simp) ?_
  unfold m55
  simp only [↓wA0, ↓wA1, ↓wA2, ↓wA3, ↓wA4, wB, Option.some.injEq, List.getElem?_cons_zero, List.getElem?_cons_succ, List.getElem?_nil, List.set_cons_zero, List.set_cons_succ, List.length_cons, List.length_nil, List.length_append, List.cons_append, List.nil_append, List.append_nil, List.any_cons, List.any_nil, List.all_cons, List.all_nil, List.map_cons, List.map_nil, if_true, if_false, beq_self_eq_true, ne_eq, eq_self, beq_iff_eq, List.append_assoc, ↓onNck, ↓look, ↓putE, evL, argsS, partsS, firstS, mkOb, evF, evS, evOO, initE, keepE, boxOf, valOf, slOf, stOf, lenOf, killL, kill, killO, refA, ref0, refV, addRes, resS, resSV, D.pre, D.nth, D.size, D.len, dget, doff, dset, D.setN, D.noOwn, D.unown, D.app, ofL, List.replicate, Nat.reduceEqDiff, Nat.reduceAdd, Nat.reduceSub, reduceIte, reduceCtorEq, Nat.reduceBEq, sz25]
  refine execG_split (fun h => ?_) (fun h => ?_) <;> simp only [h, ↓wA0, ↓wA1, ↓wA2, ↓wA3, ↓wA4, wB, Option.some.injEq, List.getElem?_cons_zero, List.getElem?_cons_succ, List.getElem?_nil, List.set_cons_zero, List.set_cons_succ, List.length_cons, List.length_nil, List.length_append, List.cons_append, List.nil_append, List.append_nil, List.any_cons, List.any_nil, List.all_cons, List.all_nil, List.map_cons, List.map_nil, if_true, if_false, beq_self_eq_true, ne_eq, eq_self, beq_iff_eq, List.append_assoc, ↓onNck, ↓look, ↓putE, evL, argsS, partsS, firstS, mkOb, evF, evS, evOO, initE, keepE, boxOf, valOf, slOf, stOf, lenOf, killL, kill, killO, refA, ref0, refV, addRes, resS, resSV, D.pre, D.nth, D.size, D.len, dget, doff, dset, D.setN, D.noOwn, D.unown, D.app, ofL, List.replicate, Nat.reduceEqDiff, Nat.reduceAdd, Nat.reduceSub, reduceIte, reduceCtorEq, Nat.reduceBEq, sz25]
  all_goals simp [within, h]
def isCount (n : Int) : Bool := within n 0 9999
theorem isCount_fn (n : Int) : Fn prog 42 [.int .i64 n] (fun rs => rs = [.bool (isCount n)]) := by
  refine Fn_of' (fn := f42) (by exact func42) c42 r42 (n := 5) (by rfl) (rv := [.tmp 2]) (by rfl) (by simp) ?_
  unfold m42
  simp only [↓wA0, ↓wA1, ↓wA2, ↓wA3, ↓wA4, wB, Option.some.injEq, List.getElem?_cons_zero, List.getElem?_cons_succ, List.getElem?_nil, List.set_cons_zero, List.set_cons_succ, List.length_cons, List.length_nil, List.length_append, List.cons_append, List.nil_append, List.append_nil, List.any_cons, List.any_nil, List.all_cons, List.all_nil, List.map_cons, List.map_nil, if_true, if_false, beq_self_eq_true, ne_eq, eq_self, beq_iff_eq, List.append_assoc, ↓onNck, ↓look, ↓putE, evL, argsS, partsS, firstS, mkOb, evF, evS, evOO, initE, keepE, boxOf, valOf, slOf, stOf, lenOf, killL, kill, killO, refA, ref0, refV, addRes, resS, resSV, D.pre, D.nth, D.size, D.len, dget, doff, dset, D.setN, D.noOwn, D.unown, D.app, ofL, List.replicate, Nat.reduceEqDiff, Nat.reduceAdd, Nat.reduceSub, reduceIte, reduceCtorEq, Nat.reduceBEq, sz25]
  refine call_det (within_fn _ _ _) rfl rfl ?_
  simp only [isCount, ↓wA0, ↓wA1, ↓wA2, ↓wA3, ↓wA4, wB, Option.some.injEq, List.getElem?_cons_zero, List.getElem?_cons_succ, List.getElem?_nil, List.set_cons_zero, List.set_cons_succ, List.length_cons, List.length_nil, List.length_append, List.cons_append, List.nil_append, List.append_nil, List.any_cons, List.any_nil, List.all_cons, List.all_nil, List.map_cons, List.map_nil, if_true, if_false, beq_self_eq_true, ne_eq, eq_self, beq_iff_eq, List.append_assoc, ↓onNck, ↓look, ↓putE, evL, argsS, partsS, firstS, mkOb, evF, evS, evOO, initE, keepE, boxOf, valOf, slOf, stOf, lenOf, killL, kill, killO, refA, ref0, refV, addRes, resS, resSV, D.pre, D.nth, D.size, D.len, dget, doff, dset, D.setN, D.noOwn, D.unown, D.app, ofL, List.replicate, Nat.reduceEqDiff, Nat.reduceAdd, Nat.reduceSub, reduceIte, reduceCtorEq, Nat.reduceBEq, sz25]
theorem l26Count_fn (n : Int) : Fn prog 56 [.int .i64 n] (fun rs => rs = [.bool (isCount n)]) := by
  refine Fn_of' (fn := f56) (by exact func56) c56 r56 (n := 5) (by rfl) (rv := [.tmp 2]) (by rfl) (by simp) ?_
  unfold m56
  simp only [↓wA0, ↓wA1, ↓wA2, ↓wA3, ↓wA4, wB, Option.some.injEq, List.getElem?_cons_zero, List.getElem?_cons_succ, List.getElem?_nil, List.set_cons_zero, List.set_cons_succ, List.length_cons, List.length_nil, List.length_append, List.cons_append, List.nil_append, List.append_nil, List.any_cons, List.any_nil, List.all_cons, List.all_nil, List.map_cons, List.map_nil, if_true, if_false, beq_self_eq_true, ne_eq, eq_self, beq_iff_eq, List.append_assoc, ↓onNck, ↓look, ↓putE, evL, argsS, partsS, firstS, mkOb, evF, evS, evOO, initE, keepE, boxOf, valOf, slOf, stOf, lenOf, killL, kill, killO, refA, ref0, refV, addRes, resS, resSV, D.pre, D.nth, D.size, D.len, dget, doff, dset, D.setN, D.noOwn, D.unown, D.app, ofL, List.replicate, Nat.reduceEqDiff, Nat.reduceAdd, Nat.reduceSub, reduceIte, reduceCtorEq, Nat.reduceBEq, sz25]
  refine call_det (l1In_fn _ _ _) rfl rfl ?_
  simp only [isCount, ↓wA0, ↓wA1, ↓wA2, ↓wA3, ↓wA4, wB, Option.some.injEq, List.getElem?_cons_zero, List.getElem?_cons_succ, List.getElem?_nil, List.set_cons_zero, List.set_cons_succ, List.length_cons, List.length_nil, List.length_append, List.cons_append, List.nil_append, List.append_nil, List.any_cons, List.any_nil, List.all_cons, List.all_nil, List.map_cons, List.map_nil, if_true, if_false, beq_self_eq_true, ne_eq, eq_self, beq_iff_eq, List.append_assoc, ↓onNck, ↓look, ↓putE, evL, argsS, partsS, firstS, mkOb, evF, evS, evOO, initE, keepE, boxOf, valOf, slOf, stOf, lenOf, killL, kill, killO, refA, ref0, refV, addRes, resS, resSV, D.pre, D.nth, D.size, D.len, dget, doff, dset, D.setN, D.noOwn, D.unown, D.app, ofL, List.replicate, Nat.reduceEqDiff, Nat.reduceAdd, Nat.reduceSub, reduceIte, reduceCtorEq, Nat.reduceBEq, sz25]
structure Row where
  y : Int
  m : Int
  k : Int
  x : Int
  g : Int
def Row.d (r : Row) : D := .st (.cons (.int .i64 r.y) (.cons (.int .i64 r.m) (.cons (.int .i64 r.k) (.cons (.int .i64 r.x) (.cons (.int .i64 r.g) .nil)))))
def Row.ok (r : Row) : Bool := within r.y 1900 2200 && (isCount r.m && (isCount r.k && (isCount r.x && isCount r.g)))
theorem isYearRow_fn (r : Row) : Fn prog 13 [r.d] (fun rs => rs = [.bool r.ok]) := by
  refine Fn_of' (fn := f13) (by exact func13) c13 r13 (n := 26) (by rfl) (rv := [.tmp 2]) (by rfl) (by simp) ?_
  unfold m13
  simp only [Row.d]
  repeat' (first
      | (simp only [↓wA0, ↓wA1, ↓wA2, ↓wA3, ↓wA4, wB, Option.some.injEq, List.getElem?_cons_zero, List.getElem?_cons_succ, List.getElem?_nil, List.set_cons_zero, List.set_cons_succ, List.length_cons, List.length_nil, List.length_append, List.cons_append, List.nil_append, List.append_nil, List.any_cons, List.any_nil, List.all_cons, List.all_nil, List.map_cons, List.map_nil, if_true, if_false, beq_self_eq_true, ne_eq, eq_self, beq_iff_eq, List.append_assoc, ↓onNck, ↓look, ↓putE, evL, argsS, partsS, firstS, mkOb, evF, evS, evOO, initE, keepE, boxOf, valOf, slOf, stOf, lenOf, killL, kill, killO, refA, ref0, refV, addRes, resS, resSV, D.pre, D.nth, D.size, D.len, dget, doff, dset, D.setN, D.noOwn, D.unown, D.app, ofL, List.replicate, Nat.reduceEqDiff, Nat.reduceAdd, Nat.reduceSub, reduceIte, reduceCtorEq, Nat.reduceBEq, sz25])
      | (refine call_det (within_fn _ _ _) rfl rfl ?_)
      | (refine callP_det (within_fn _ _ _) rfl rfl ?_)
      | (refine call_det (isCount_fn _) rfl rfl ?_)
      | (refine callP_det (isCount_fn _) rfl rfl ?_)
      | (refine execG_split (fun h => ?_) (fun h => ?_) <;> simp only [h])
      | (refine execC_split (fun h => ?_) (fun h => ?_) <;> (try simp only [h]))
      | (refine onPick_split (fun h => ?_) (fun h => ?_) <;> (try simp only [h])))
  all_goals simp [Row.ok, *]
theorem l26One_fn (r : Row) : Fn prog 40 [r.d] (fun rs => rs = [.bool r.ok]) := by
  refine Fn_of' (fn := f40) (by exact func40) c40 r40 (n := 26) (by rfl) (rv := [.tmp 2]) (by rfl) (by simp) ?_
  unfold m40
  simp only [Row.d]
  repeat' (first
      | (simp only [↓wA0, ↓wA1, ↓wA2, ↓wA3, ↓wA4, wB, Option.some.injEq, List.getElem?_cons_zero, List.getElem?_cons_succ, List.getElem?_nil, List.set_cons_zero, List.set_cons_succ, List.length_cons, List.length_nil, List.length_append, List.cons_append, List.nil_append, List.append_nil, List.any_cons, List.any_nil, List.all_cons, List.all_nil, List.map_cons, List.map_nil, if_true, if_false, beq_self_eq_true, ne_eq, eq_self, beq_iff_eq, List.append_assoc, ↓onNck, ↓look, ↓putE, evL, argsS, partsS, firstS, mkOb, evF, evS, evOO, initE, keepE, boxOf, valOf, slOf, stOf, lenOf, killL, kill, killO, refA, ref0, refV, addRes, resS, resSV, D.pre, D.nth, D.size, D.len, dget, doff, dset, D.setN, D.noOwn, D.unown, D.app, ofL, List.replicate, Nat.reduceEqDiff, Nat.reduceAdd, Nat.reduceSub, reduceIte, reduceCtorEq, Nat.reduceBEq, sz25])
      | (refine call_det (l1In_fn _ _ _) rfl rfl ?_)
      | (refine callP_det (l1In_fn _ _ _) rfl rfl ?_)
      | (refine call_det (l26Count_fn _) rfl rfl ?_)
      | (refine callP_det (l26Count_fn _) rfl rfl ?_)
      | (refine execG_split (fun h => ?_) (fun h => ?_) <;> simp only [h])
      | (refine execC_split (fun h => ?_) (fun h => ?_) <;> (try simp only [h]))
      | (refine onPick_split (fun h => ?_) (fun h => ?_) <;> (try simp only [h])))
  all_goals simp [Row.ok, *]
theorem specIsYearRow_fn (r : Row) : Fn prog 11 [r.d] (fun rs => rs = [.bool r.ok]) := by
  refine Fn_of' (fn := f11) (by exact func11) c11 r11 (n := 5) (by rfl) (rv := [.tmp 2]) (by rfl) (by simp) ?_
  unfold m11
  simp only [Row.d]
  repeat' (first
      | (simp only [↓wA0, ↓wA1, ↓wA2, ↓wA3, ↓wA4, wB, Option.some.injEq, List.getElem?_cons_zero, List.getElem?_cons_succ, List.getElem?_nil, List.set_cons_zero, List.set_cons_succ, List.length_cons, List.length_nil, List.length_append, List.cons_append, List.nil_append, List.append_nil, List.any_cons, List.any_nil, List.all_cons, List.all_nil, List.map_cons, List.map_nil, if_true, if_false, beq_self_eq_true, ne_eq, eq_self, beq_iff_eq, List.append_assoc, ↓onNck, ↓look, ↓putE, evL, argsS, partsS, firstS, mkOb, evF, evS, evOO, initE, keepE, boxOf, valOf, slOf, stOf, lenOf, killL, kill, killO, refA, ref0, refV, addRes, resS, resSV, D.pre, D.nth, D.size, D.len, dget, doff, dset, D.setN, D.noOwn, D.unown, D.app, ofL, List.replicate, Nat.reduceEqDiff, Nat.reduceAdd, Nat.reduceSub, reduceIte, reduceCtorEq, Nat.reduceBEq, sz25])
      | (refine call_det (l26One_fn _) rfl rfl ?_)
      | (refine callP_det (l26One_fn _) rfl rfl ?_)
      | (refine execG_split (fun h => ?_) (fun h => ?_) <;> simp only [h])
      | (refine execC_split (fun h => ?_) (fun h => ?_) <;> (try simp only [h]))
      | (refine onPick_split (fun h => ?_) (fun h => ?_) <;> (try simp only [h])))
end Go.Pe.Try
