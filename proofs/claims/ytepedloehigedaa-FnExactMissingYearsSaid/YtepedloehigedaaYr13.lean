/- Marks, and what holds them. -/
import Derived.Test.YtepedloehigedaaYr12
set_option maxRecDepth 100000
set_option maxHeartbeats 4000000
set_option linter.all false
namespace Go.Pe.Try
open Go.Proofs.Try
theorem dget_row0 {r : Row} : dget [0] r.d = some (.int .i64 r.y) := rfl
theorem dget_row1 {r : Row} : dget [1] r.d = some (.int .i64 r.m) := rfl
theorem dget_row2 {r : Row} : dget [2] r.d = some (.int .i64 r.k) := rfl
theorem dget_row3 {r : Row} : dget [3] r.d = some (.int .i64 r.x) := rfl
theorem dget_row4 {r : Row} : dget [4] r.d = some (.int .i64 r.g) := rfl
theorem doff_row0 {r : Row} : doff [0] r.d = 0 := rfl
theorem doff_row1 {r : Row} : doff [1] r.d = 1 := rfl
theorem doff_row2 {r : Row} : doff [2] r.d = 2 := rfl
theorem doff_row3 {r : Row} : doff [3] r.d = 3 := rfl
theorem doff_row4 {r : Row} : doff [4] r.d = 4 := rfl
theorem dset_row0 {r : Row} {n : Int} : dset [0] r.d (.int .i64 n) = Row.d { r with y := n } := rfl
theorem dset_row1 {r : Row} {n : Int} : dset [1] r.d (.int .i64 n) = Row.d { r with m := n } := rfl
theorem dset_row2 {r : Row} {n : Int} : dset [2] r.d (.int .i64 n) = Row.d { r with k := n } := rfl
theorem dset_row3 {r : Row} {n : Int} : dset [3] r.d (.int .i64 n) = Row.d { r with x := n } := rfl
theorem dset_row4 {r : Row} {n : Int} : dset [4] r.d (.int .i64 n) = Row.d { r with g := n } := rfl
theorem markYearRowS_fn (xs : List Row) (hlen : xs.length ≤ 1048576) : FnM prog 26 false (.sl true 5 (rowsD xs)) [.int .i64 1] (fun x' rs => (∃ ys : List Row, x' = .sl true 5 (rowsD ys) ∧ ys.length = xs.length) ∧ rs = [.int .i64 (1 + 5 * xs.length)]) := by
  refine FnM_of' (fn := f26) (by exact func26) c26 r26 (n := 48) (by rfl) (rv := [.tmp 4]) (by rfl) (by decide) (by simp) ?_
  unfold m26
  try simp only [↓wA0, ↓wA1, ↓wA2, ↓wA3, ↓wA4, wB, Option.some.injEq, List.getElem?_cons_zero, List.getElem?_cons_succ, List.getElem?_nil, List.set_cons_zero, List.set_cons_succ, List.length_cons, List.length_nil, List.length_append, List.cons_append, List.nil_append, List.append_nil, List.any_cons, List.any_nil, List.all_cons, List.all_nil, List.map_cons, List.map_nil, if_true, if_false, beq_self_eq_true, ne_eq, eq_self, beq_iff_eq, List.append_assoc, ↓onNck, ↓look, ↓putE, evL, argsS, partsS, firstS, mkOb, evF, evS, evOO, initE, keepE, boxOf, valOf, slOf, stOf, lenOf, killL, kill, killO, refA, ref0, refV, addRes, resS, resSV, D.pre, D.nth, D.size, D.len, dget, doff, dset, D.setN, D.noOwn, D.unown, D.app, ofL, List.replicate, Nat.reduceEqDiff, Nat.reduceAdd, Nat.reduceSub, reduceIte, reduceCtorEq, Nat.reduceBEq, sz25]
  refine exec_loop (fun p : Nat × List Row => ⟨[(0, .own 0), (1, .d (.int .i64 (1 + 5 * p.1))), (5, .d (.int .i64 p.1))], [.val (.sl true 5 (rowsD p.2))]⟩)
    (fun p => p.1 ≤ xs.length ∧ p.2.length = xs.length) (fun p => xs.length - p.1) (0, xs)
    (weak_of [] rfl ⟨⟨rfl, rfl⟩, ⟨rfl, rfl⟩, ⟨rfl, rfl⟩, trivial⟩) ⟨Nat.zero_le _, rfl⟩ ?_
  rintro ⟨i, ys⟩ ⟨hi, hy⟩
  simp only at hi hy
  by_cases hlt : i < xs.length
  · obtain ⟨r, hr⟩ := get_lt (show i < ys.length by omega)
    have hd : decide ((i : Int) < (xs.length : Int)) = true := decide_eq_true (by omega)
    have h0 : (0 : Int) ≤ (i : Int) := by omega
    have hg : ∀ a : Row, (ys.set i a)[i]? = some a := fun a => List.getElem?_set_self (by omega)
    repeat' (first
        | (simp only [dl_len, hy, hd, dl_nth, Int.toNat_natCast, hr, hg, Option.map_some, h0, onC_true, dget_row0, dget_row1, dget_row2, dget_row3, dget_row4, doff_row0, doff_row1, doff_row2, doff_row3, doff_row4, dset_row0, dset_row1, dset_row2, dset_row3, dset_row4, dl_setN, List.set_set, ↓wA0, ↓wA1, ↓wA2, ↓wA3, ↓wA4, wB, Option.some.injEq, List.getElem?_cons_zero, List.getElem?_cons_succ, List.getElem?_nil, List.set_cons_zero, List.set_cons_succ, List.length_cons, List.length_nil, List.length_append, List.cons_append, List.nil_append, List.append_nil, List.any_cons, List.any_nil, List.all_cons, List.all_nil, List.map_cons, List.map_nil, if_true, if_false, beq_self_eq_true, ne_eq, eq_self, beq_iff_eq, List.append_assoc, ↓onNck, ↓look, ↓putE, evL, argsS, partsS, firstS, mkOb, evF, evS, evOO, initE, keepE, boxOf, valOf, slOf, stOf, lenOf, killL, kill, killO, refA, ref0, refV, addRes, resS, resSV, D.pre, D.nth, D.size, D.len, dget, doff, dset, D.setN, D.noOwn, D.unown, D.app, ofL, List.replicate, Nat.reduceEqDiff, Nat.reduceAdd, Nat.reduceSub, reduceIte, reduceCtorEq, Nat.reduceBEq, sz25])
        | (refine onI_bare (by simp only [InR]; omega) ?_)
        | (refine execG_split (fun h => ?_) (fun h => ?_) <;> simp only [h])
        | (refine execC_split (fun h => ?_) (fun h => ?_) <;> (try simp only [h]))
        | (refine onPick_split (fun h => ?_) (fun h => ?_) <;> (try simp only [h])))
    refine ⟨(i + 1, _), weak_of [] rfl ⟨⟨rfl, rfl⟩, ⟨?_, rfl⟩, ⟨rfl, rfl⟩, trivial⟩, ⟨by simp only; omega, by simp [hy]⟩, by simp only; omega⟩
    exact congrArg (fun n => SV.d (.int .i64 n)) (by simp only; omega)
  · have hd : decide ((i : Int) < (xs.length : Int)) = false := decide_eq_false (by omega)
    have e : i = xs.length := by omega
    try simp only [dl_len, hy, hd, ↓wA0, ↓wA1, ↓wA2, ↓wA3, ↓wA4, wB, Option.some.injEq, List.getElem?_cons_zero, List.getElem?_cons_succ, List.getElem?_nil, List.set_cons_zero, List.set_cons_succ, List.length_cons, List.length_nil, List.length_append, List.cons_append, List.nil_append, List.append_nil, List.any_cons, List.any_nil, List.all_cons, List.all_nil, List.map_cons, List.map_nil, if_true, if_false, beq_self_eq_true, ne_eq, eq_self, beq_iff_eq, List.append_assoc, ↓onNck, ↓look, ↓putE, evL, argsS, partsS, firstS, mkOb, evF, evS, evOO, initE, keepE, boxOf, valOf, slOf, stOf, lenOf, killL, kill, killO, refA, ref0, refV, addRes, resS, resSV, D.pre, D.nth, D.size, D.len, dget, doff, dset, D.setN, D.noOwn, D.unown, D.app, ofL, List.replicate, Nat.reduceEqDiff, Nat.reduceAdd, Nat.reduceSub, reduceIte, reduceCtorEq, Nat.reduceBEq, sz25]
    exact ⟨⟨ys, rfl, hy⟩, by rw [e]⟩
/-- numbers from one on. -/
def ups : Nat → Int → List Int
  | 0, _ => []
  | n + 1, k => k :: ups n (k + 1)
theorem ups_len : ∀ (n : Nat) (k : Int), (ups n k).length = n
  | 0, _ => rfl
  | n + 1, k => by simp [ups, ups_len n]
theorem ups_get : ∀ (n : Nat) (k : Int) (i : Nat), i < n → (ups n k)[i]? = some (k + i)
  | 0, _, i, h => by omega
  | n + 1, k, 0, _ => by simp [ups]
  | n + 1, k, i + 1, h => by
    simp only [ups, List.getElem?_cons_succ]
    rw [ups_get n (k + 1) i (by omega)]
    congr 1; omega
theorem ups_snoc : ∀ (n : Nat) (k : Int), ups (n + 1) k = ups n k ++ [k + n]
  | 0, k => by simp [ups]
  | n + 1, k => by
    have h := ups_snoc n (k + 1)
    rw [ups, h, ups, List.cons_append]
    congr 3; omega
theorem ups_set {v : List Int} {i : Nat} {k : Int} (h : i < v.length) : (ups i k ++ v.drop i).set i (k + i) = ups (i + 1) k ++ v.drop (i + 1) := by
  rw [List.set_append_right _ _ (by rw [ups_len]; omega), ups_len, Nat.sub_self, List.drop_eq_getElem_cons h, List.set_cons_zero, ups_snoc, List.append_assoc]
  rfl
theorem dget_int {n : Int} : dget [] (iD n) = some (iD n) := rfl
theorem doff_int {n : Int} : doff [] (iD n) = 0 := rfl
theorem dset_int {n m : Int} : dset [] (iD n) (.int .i64 m) = iD m := rfl
theorem size_int {n : Int} : (iD n).size = 1 := rfl
theorem markIntS_fn (v : List Int) (hlen : v.length ≤ 1048576) : FnM prog 27 false (.sl true 1 (dl iD v)) [.int .i64 1] (fun x' rs => x' = .sl true 1 (dl iD (ups v.length 1)) ∧ rs = [.int .i64 (1 + v.length)]) := by
  refine FnM_of' (fn := f27) (by exact func27) c27 r27 (n := 19) (by rfl) (rv := [.tmp 4]) (by rfl) (by decide) (by simp) ?_
  unfold m27
  try simp only [↓wA0, ↓wA1, ↓wA2, ↓wA3, ↓wA4, wB, Option.some.injEq, List.getElem?_cons_zero, List.getElem?_cons_succ, List.getElem?_nil, List.set_cons_zero, List.set_cons_succ, List.length_cons, List.length_nil, List.length_append, List.cons_append, List.nil_append, List.append_nil, List.any_cons, List.any_nil, List.all_cons, List.all_nil, List.map_cons, List.map_nil, if_true, if_false, beq_self_eq_true, ne_eq, eq_self, beq_iff_eq, List.append_assoc, ↓onNck, ↓look, ↓putE, evL, argsS, partsS, firstS, mkOb, evF, evS, evOO, initE, keepE, boxOf, valOf, slOf, stOf, lenOf, killL, kill, killO, refA, ref0, refV, addRes, resS, resSV, D.pre, D.nth, D.size, D.len, dget, doff, dset, D.setN, D.noOwn, D.unown, D.app, ofL, List.replicate, Nat.reduceEqDiff, Nat.reduceAdd, Nat.reduceSub, reduceIte, reduceCtorEq, Nat.reduceBEq, sz25]
  refine exec_loop (fun i : Nat => ⟨[(0, .own 0), (1, .d (.int .i64 (1 + i))), (5, .d (.int .i64 i))], [.val (.sl true 1 (dl iD (ups i 1 ++ v.drop i)))]⟩)
    (fun i => i ≤ v.length) (fun i => v.length - i) 0
    (weak_of [] rfl ⟨⟨rfl, rfl⟩, ⟨rfl, rfl⟩, ⟨rfl, rfl⟩, trivial⟩) (Nat.zero_le _) ?_
  intro i hi
  have hl : (ups i 1 ++ v.drop i).length = v.length := by rw [List.length_append, ups_len, List.length_drop]; omega
  by_cases hlt : i < v.length
  · obtain ⟨w, hw⟩ := get_lt (show i < (ups i 1 ++ v.drop i).length by omega)
    have hd : decide ((i : Int) < (v.length : Int)) = true := decide_eq_true (by omega)
    have h0 : (0 : Int) ≤ (i : Int) := by omega
    have hs : (dl iD (ups i 1 ++ v.drop i)).setN i (.int .i64 (1 + i)) = dl iD (ups (i + 1) 1 ++ v.drop (i + 1)) := (dl_setN (f := iD) _ i (1 + i)).trans (by rw [ups_set hlt])
    repeat' (first
        | (simp only [dl_len, hl, hd, dl_nth, Int.toNat_natCast, hw, Option.map_some, h0, onC_true, size_int, hs, ↓wA0, ↓wA1, ↓wA2, ↓wA3, ↓wA4, wB, Option.some.injEq, List.getElem?_cons_zero, List.getElem?_cons_succ, List.getElem?_nil, List.set_cons_zero, List.set_cons_succ, List.length_cons, List.length_nil, List.length_append, List.cons_append, List.nil_append, List.append_nil, List.any_cons, List.any_nil, List.all_cons, List.all_nil, List.map_cons, List.map_nil, if_true, if_false, beq_self_eq_true, ne_eq, eq_self, beq_iff_eq, List.append_assoc, ↓onNck, ↓look, ↓putE, evL, argsS, partsS, firstS, mkOb, evF, evS, evOO, initE, keepE, boxOf, valOf, slOf, stOf, lenOf, killL, kill, killO, refA, ref0, refV, addRes, resS, resSV, D.pre, D.nth, D.size, D.len, dget, doff, dset, D.setN, D.noOwn, D.unown, D.app, ofL, List.replicate, Nat.reduceEqDiff, Nat.reduceAdd, Nat.reduceSub, reduceIte, reduceCtorEq, Nat.reduceBEq, sz25])
        | (refine onI_bare (by simp only [InR]; omega) ?_)
        | (refine execG_split (fun h => ?_) (fun h => ?_) <;> simp only [h])
        | (refine execC_split (fun h => ?_) (fun h => ?_) <;> (try simp only [h]))
        | (refine onPick_split (fun h => ?_) (fun h => ?_) <;> (try simp only [h])))
    refine ⟨i + 1, weak_of [] rfl ⟨⟨rfl, rfl⟩, ⟨?_, rfl⟩, ⟨rfl, rfl⟩, trivial⟩, by omega, by omega⟩
    exact congrArg (fun n => SV.d (.int .i64 n)) (by omega)
  · have hd : decide ((i : Int) < (v.length : Int)) = false := decide_eq_false (by omega)
    have e : i = v.length := by omega
    try simp only [dl_len, hl, hd, ↓wA0, ↓wA1, ↓wA2, ↓wA3, ↓wA4, wB, Option.some.injEq, List.getElem?_cons_zero, List.getElem?_cons_succ, List.getElem?_nil, List.set_cons_zero, List.set_cons_succ, List.length_cons, List.length_nil, List.length_append, List.cons_append, List.nil_append, List.append_nil, List.any_cons, List.any_nil, List.all_cons, List.all_nil, List.map_cons, List.map_nil, if_true, if_false, beq_self_eq_true, ne_eq, eq_self, beq_iff_eq, List.append_assoc, ↓onNck, ↓look, ↓putE, evL, argsS, partsS, firstS, mkOb, evF, evS, evOO, initE, keepE, boxOf, valOf, slOf, stOf, lenOf, killL, kill, killO, refA, ref0, refV, addRes, resS, resSV, D.pre, D.nth, D.size, D.len, dget, doff, dset, D.setN, D.noOwn, D.unown, D.app, ofL, List.replicate, Nat.reduceEqDiff, Nat.reduceAdd, Nat.reduceSub, reduceIte, reduceCtorEq, Nat.reduceBEq, sz25]
    rw [e, List.drop_length, List.append_nil]
    exact ⟨rfl, rfl⟩
theorem heldIntS_fn (n : Nat) (hlen : n ≤ 1048576) : Fn prog 28 [.sl false 1 (dl iD (ups n 1)), .int .i64 1] (fun rs => rs = [.int .i64 (1 + n)]) := by
  refine Fn_of' (fn := f28) (by exact func28) c28 r28 (n := 21) (by rfl) (rv := [.tmp 4]) (by rfl) (by simp) ?_
  unfold m28
  try simp only [↓wA0, ↓wA1, ↓wA2, ↓wA3, ↓wA4, wB, Option.some.injEq, List.getElem?_cons_zero, List.getElem?_cons_succ, List.getElem?_nil, List.set_cons_zero, List.set_cons_succ, List.length_cons, List.length_nil, List.length_append, List.cons_append, List.nil_append, List.append_nil, List.any_cons, List.any_nil, List.all_cons, List.all_nil, List.map_cons, List.map_nil, if_true, if_false, beq_self_eq_true, ne_eq, eq_self, beq_iff_eq, List.append_assoc, ↓onNck, ↓look, ↓putE, evL, argsS, partsS, firstS, mkOb, evF, evS, evOO, initE, keepE, boxOf, valOf, slOf, stOf, lenOf, killL, kill, killO, refA, ref0, refV, addRes, resS, resSV, D.pre, D.nth, D.size, D.len, dget, doff, dset, D.setN, D.noOwn, D.unown, D.app, ofL, List.replicate, Nat.reduceEqDiff, Nat.reduceAdd, Nat.reduceSub, reduceIte, reduceCtorEq, Nat.reduceBEq, sz25]
  refine exec_loop (fun i : Nat => ⟨[(0, .d (.sl false 1 (dl iD (ups n 1)))), (1, .d (.int .i64 (1 + i))), (5, .d (.int .i64 i))], []⟩)
    (fun i => i ≤ n) (fun i => n - i) 0
    (weak_of [] rfl ⟨⟨rfl, rfl⟩, ⟨rfl, rfl⟩, ⟨rfl, rfl⟩, trivial⟩) (Nat.zero_le _) ?_
  intro i hi
  have hl := ups_len n 1
  by_cases hlt : i < n
  · have hw := ups_get n 1 i hlt
    have hd : decide ((i : Int) < (n : Int)) = true := decide_eq_true (by omega)
    have h0 : (0 : Int) ≤ (i : Int) := by omega
    repeat' (first
        | (simp only [dl_len, hl, hd, dl_nth, Int.toNat_natCast, hw, Option.map_some, h0, onC_true, iD, ↓wA0, ↓wA1, ↓wA2, ↓wA3, ↓wA4, wB, Option.some.injEq, List.getElem?_cons_zero, List.getElem?_cons_succ, List.getElem?_nil, List.set_cons_zero, List.set_cons_succ, List.length_cons, List.length_nil, List.length_append, List.cons_append, List.nil_append, List.append_nil, List.any_cons, List.any_nil, List.all_cons, List.all_nil, List.map_cons, List.map_nil, if_true, if_false, beq_self_eq_true, ne_eq, eq_self, beq_iff_eq, List.append_assoc, ↓onNck, ↓look, ↓putE, evL, argsS, partsS, firstS, mkOb, evF, evS, evOO, initE, keepE, boxOf, valOf, slOf, stOf, lenOf, killL, kill, killO, refA, ref0, refV, addRes, resS, resSV, D.pre, D.nth, D.size, D.len, dget, doff, dset, D.setN, D.noOwn, D.unown, D.app, ofL, List.replicate, Nat.reduceEqDiff, Nat.reduceAdd, Nat.reduceSub, reduceIte, reduceCtorEq, Nat.reduceBEq, sz25])
        | (refine onI_bare (by simp only [InR]; omega) ?_)
        | (refine execG_split (fun h => ?_) (fun h => ?_) <;> simp only [h])
        | (refine execC_split (fun h => ?_) (fun h => ?_) <;> (try simp only [h]))
        | (refine onPick_split (fun h => ?_) (fun h => ?_) <;> (try simp only [h])))
    refine ⟨i + 1, weak_of [] rfl ⟨⟨rfl, rfl⟩, ⟨?_, rfl⟩, ⟨rfl, rfl⟩, trivial⟩, by omega, by omega⟩
    exact congrArg (fun n => SV.d (.int .i64 n)) (by omega)
  · have hd : decide ((i : Int) < (n : Int)) = false := decide_eq_false (by omega)
    have e : i = n := by omega
    try simp only [dl_len, hl, hd, ↓wA0, ↓wA1, ↓wA2, ↓wA3, ↓wA4, wB, Option.some.injEq, List.getElem?_cons_zero, List.getElem?_cons_succ, List.getElem?_nil, List.set_cons_zero, List.set_cons_succ, List.length_cons, List.length_nil, List.length_append, List.cons_append, List.nil_append, List.append_nil, List.any_cons, List.any_nil, List.all_cons, List.all_nil, List.map_cons, List.map_nil, if_true, if_false, beq_self_eq_true, ne_eq, eq_self, beq_iff_eq, List.append_assoc, ↓onNck, ↓look, ↓putE, evL, argsS, partsS, firstS, mkOb, evF, evS, evOO, initE, keepE, boxOf, valOf, slOf, stOf, lenOf, killL, kill, killO, refA, ref0, refV, addRes, resS, resSV, D.pre, D.nth, D.size, D.len, dget, doff, dset, D.setN, D.noOwn, D.unown, D.app, ofL, List.replicate, Nat.reduceEqDiff, Nat.reduceAdd, Nat.reduceSub, reduceIte, reduceCtorEq, Nat.reduceBEq, sz25]
    rw [e]
theorem eqIntS_refl (v : List Int) (hlen : v.length ≤ 1048576) : Fn prog 25 [.sl false 1 (dl iD v), .sl false 1 (dl iD v)] (fun rs => rs = [.bool true]) := by
  refine Fn_of' (fn := f25) (by exact func25) c25 r25 (n := 26) (by rfl) (rv := [.tmp 4]) (by rfl) (by simp) ?_
  unfold m25
  simp only [↓wA0, ↓wA1, ↓wA2, ↓wA3, ↓wA4, wB, Option.some.injEq, List.getElem?_cons_zero, List.getElem?_cons_succ, List.getElem?_nil, List.set_cons_zero, List.set_cons_succ, List.length_cons, List.length_nil, List.length_append, List.cons_append, List.nil_append, List.append_nil, List.any_cons, List.any_nil, List.all_cons, List.all_nil, List.map_cons, List.map_nil, if_true, if_false, beq_self_eq_true, ne_eq, eq_self, beq_iff_eq, List.append_assoc, ↓onNck, ↓look, ↓putE, evL, argsS, partsS, firstS, mkOb, evF, evS, evOO, initE, keepE, boxOf, valOf, slOf, stOf, lenOf, killL, kill, killO, refA, ref0, refV, addRes, resS, resSV, D.pre, D.nth, D.size, D.len, dget, doff, dset, D.setN, D.noOwn, D.unown, D.app, ofL, List.replicate, Nat.reduceEqDiff, Nat.reduceAdd, Nat.reduceSub, reduceIte, reduceCtorEq, Nat.reduceBEq, sz25]
  refine exec_loop (fun i : Nat => ⟨[(0, .d (.sl false 1 (dl iD v))), (1, .d (.sl false 1 (dl iD v))), (5, .d (.int .i64 i))], []⟩)
    (fun i => i ≤ v.length) (fun i => v.length - i) 0 (weak_of [] rfl ⟨⟨rfl, rfl⟩, ⟨rfl, rfl⟩, ⟨rfl, rfl⟩, trivial⟩) (Nat.zero_le _) ?_
  intro i hi
  by_cases hlt : i < v.length
  · obtain ⟨r, hr⟩ := get_lt hlt
    have hd : decide ((i : Int) < (v.length : Int)) = true := decide_eq_true (by omega)
    have h0 : (0 : Int) ≤ (i : Int) := by omega
    repeat' (first
        | (simp only [dl_len, dl_nth, hd, Int.toNat_natCast, hr, Option.map_some, h0, onC_true, iD, ↓wA0, ↓wA1, ↓wA2, ↓wA3, ↓wA4, wB, Option.some.injEq, List.getElem?_cons_zero, List.getElem?_cons_succ, List.getElem?_nil, List.set_cons_zero, List.set_cons_succ, List.length_cons, List.length_nil, List.length_append, List.cons_append, List.nil_append, List.append_nil, List.any_cons, List.any_nil, List.all_cons, List.all_nil, List.map_cons, List.map_nil, if_true, if_false, beq_self_eq_true, ne_eq, eq_self, beq_iff_eq, List.append_assoc, ↓onNck, ↓look, ↓putE, evL, argsS, partsS, firstS, mkOb, evF, evS, evOO, initE, keepE, boxOf, valOf, slOf, stOf, lenOf, killL, kill, killO, refA, ref0, refV, addRes, resS, resSV, D.pre, D.nth, D.size, D.len, dget, doff, dset, D.setN, D.noOwn, D.unown, D.app, ofL, List.replicate, Nat.reduceEqDiff, Nat.reduceAdd, Nat.reduceSub, reduceIte, reduceCtorEq, Nat.reduceBEq, sz25])
        | (refine execG_split (fun h => ?_) (fun h => ?_) <;> simp only [h])
        | (refine execC_split (fun h => ?_) (fun h => ?_) <;> (try simp only [h]))
        | (refine onPick_split (fun h => ?_) (fun h => ?_) <;> (try simp only [h])))
    refine onI_bare (by simp only [InR]; omega) ?_
    exact ⟨i + 1, weak_of [] rfl ⟨⟨rfl, rfl⟩, ⟨rfl, rfl⟩, ⟨rfl, rfl⟩, trivial⟩, by omega, by omega⟩
  · have hd : decide ((i : Int) < (v.length : Int)) = false := decide_eq_false (by omega)
    simp only [dl_len, hd, ↓wA0, ↓wA1, ↓wA2, ↓wA3, ↓wA4, wB, Option.some.injEq, List.getElem?_cons_zero, List.getElem?_cons_succ, List.getElem?_nil, List.set_cons_zero, List.set_cons_succ, List.length_cons, List.length_nil, List.length_append, List.cons_append, List.nil_append, List.append_nil, List.any_cons, List.any_nil, List.all_cons, List.all_nil, List.map_cons, List.map_nil, if_true, if_false, beq_self_eq_true, ne_eq, eq_self, beq_iff_eq, List.append_assoc, ↓onNck, ↓look, ↓putE, evL, argsS, partsS, firstS, mkOb, evF, evS, evOO, initE, keepE, boxOf, valOf, slOf, stOf, lenOf, killL, kill, killO, refA, ref0, refV, addRes, resS, resSV, D.pre, D.nth, D.size, D.len, dget, doff, dset, D.setN, D.noOwn, D.unown, D.app, ofL, List.replicate, Nat.reduceEqDiff, Nat.reduceAdd, Nat.reduceSub, reduceIte, reduceCtorEq, Nat.reduceBEq, sz25]
theorem specRestsAfter_fn (stock : Int) (xs : List Row) (hs : InR .i64 stock) (hlen : xs.length ≤ 1048576) : Fn prog 23 [.int .i64 stock, .sl false 5 (rowsD xs)] (fun rs => rs = restsR stock xs) := by
  refine Fn_of' (fn := f23) (by exact func23) c23 r23 (n := 14) (by rfl) (rv := [.tmp 4, .tmp 5]) (by rfl) (by simp) ?_
  unfold m23
  try simp only [↓wA0, ↓wA1, ↓wA2, ↓wA3, ↓wA4, wB, Option.some.injEq, List.getElem?_cons_zero, List.getElem?_cons_succ, List.getElem?_nil, List.set_cons_zero, List.set_cons_succ, List.length_cons, List.length_nil, List.length_append, List.cons_append, List.nil_append, List.append_nil, List.any_cons, List.any_nil, List.all_cons, List.all_nil, List.map_cons, List.map_nil, if_true, if_false, beq_self_eq_true, ne_eq, eq_self, beq_iff_eq, List.append_assoc, ↓onNck, ↓look, ↓putE, evL, argsS, partsS, firstS, mkOb, evF, evS, evOO, initE, keepE, boxOf, valOf, slOf, stOf, lenOf, killL, kill, killO, refA, ref0, refV, addRes, resS, resSV, D.pre, D.nth, D.size, D.len, dget, doff, dset, D.setN, D.noOwn, D.unown, D.app, ofL, List.replicate, Nat.reduceEqDiff, Nat.reduceAdd, Nat.reduceSub, reduceIte, reduceCtorEq, Nat.reduceBEq, sz25]
  refine call_det (l26Good_fn stock xs hs hlen) rfl rfl ?_
  try simp only [↓wA0, ↓wA1, ↓wA2, ↓wA3, ↓wA4, wB, Option.some.injEq, List.getElem?_cons_zero, List.getElem?_cons_succ, List.getElem?_nil, List.set_cons_zero, List.set_cons_succ, List.length_cons, List.length_nil, List.length_append, List.cons_append, List.nil_append, List.append_nil, List.any_cons, List.any_nil, List.all_cons, List.all_nil, List.map_cons, List.map_nil, if_true, if_false, beq_self_eq_true, ne_eq, eq_self, beq_iff_eq, List.append_assoc, ↓onNck, ↓look, ↓putE, evL, argsS, partsS, firstS, mkOb, evF, evS, evOO, initE, keepE, boxOf, valOf, slOf, stOf, lenOf, killL, kill, killO, refA, ref0, refV, addRes, resS, resSV, D.pre, D.nth, D.size, D.len, dget, doff, dset, D.setN, D.noOwn, D.unown, D.app, ofL, List.replicate, Nat.reduceEqDiff, Nat.reduceAdd, Nat.reduceSub, reduceIte, reduceCtorEq, Nat.reduceBEq, sz25]
  cases hg : good stock xs with
  | false =>
    try simp only [↓wA0, ↓wA1, ↓wA2, ↓wA3, ↓wA4, wB, Option.some.injEq, List.getElem?_cons_zero, List.getElem?_cons_succ, List.getElem?_nil, List.set_cons_zero, List.set_cons_succ, List.length_cons, List.length_nil, List.length_append, List.cons_append, List.nil_append, List.append_nil, List.any_cons, List.any_nil, List.all_cons, List.all_nil, List.map_cons, List.map_nil, if_true, if_false, beq_self_eq_true, ne_eq, eq_self, beq_iff_eq, List.append_assoc, ↓onNck, ↓look, ↓putE, evL, argsS, partsS, firstS, mkOb, evF, evS, evOO, initE, keepE, boxOf, valOf, slOf, stOf, lenOf, killL, kill, killO, refA, ref0, refV, addRes, resS, resSV, D.pre, D.nth, D.size, D.len, dget, doff, dset, D.setN, D.noOwn, D.unown, D.app, ofL, List.replicate, Nat.reduceEqDiff, Nat.reduceAdd, Nat.reduceSub, reduceIte, reduceCtorEq, Nat.reduceBEq, sz25]
    simp [restsR, hg, dl, ofL]
  | true =>
    try simp only [↓wA0, ↓wA1, ↓wA2, ↓wA3, ↓wA4, wB, Option.some.injEq, List.getElem?_cons_zero, List.getElem?_cons_succ, List.getElem?_nil, List.set_cons_zero, List.set_cons_succ, List.length_cons, List.length_nil, List.length_append, List.cons_append, List.nil_append, List.append_nil, List.any_cons, List.any_nil, List.all_cons, List.all_nil, List.map_cons, List.map_nil, if_true, if_false, beq_self_eq_true, ne_eq, eq_self, beq_iff_eq, List.append_assoc, ↓onNck, ↓look, ↓putE, evL, argsS, partsS, firstS, mkOb, evF, evS, evOO, initE, keepE, boxOf, valOf, slOf, stOf, lenOf, killL, kill, killO, refA, ref0, refV, addRes, resS, resSV, D.pre, D.nth, D.size, D.len, dget, doff, dset, D.setN, D.noOwn, D.unown, D.app, ofL, List.replicate, Nat.reduceEqDiff, Nat.reduceAdd, Nat.reduceSub, reduceIte, reduceCtorEq, Nat.reduceBEq, sz25]
    refine call_det (l26Rests_fn stock xs hg) rfl rfl ?_
    try simp only [ints_noOwn, ↓wA0, ↓wA1, ↓wA2, ↓wA3, ↓wA4, wB, Option.some.injEq, List.getElem?_cons_zero, List.getElem?_cons_succ, List.getElem?_nil, List.set_cons_zero, List.set_cons_succ, List.length_cons, List.length_nil, List.length_append, List.cons_append, List.nil_append, List.append_nil, List.any_cons, List.any_nil, List.all_cons, List.all_nil, List.map_cons, List.map_nil, if_true, if_false, beq_self_eq_true, ne_eq, eq_self, beq_iff_eq, List.append_assoc, ↓onNck, ↓look, ↓putE, evL, argsS, partsS, firstS, mkOb, evF, evS, evOO, initE, keepE, boxOf, valOf, slOf, stOf, lenOf, killL, kill, killO, refA, ref0, refV, addRes, resS, resSV, D.pre, D.nth, D.size, D.len, dget, doff, dset, D.setN, D.noOwn, D.unown, D.app, ofL, List.replicate, Nat.reduceEqDiff, Nat.reduceAdd, Nat.reduceSub, reduceIte, reduceCtorEq, Nat.reduceBEq, sz25]
    simp [restsR, hg]
theorem implRestsAfter_fn (stock : Int) (xs : List Row) (hlen : xs.length ≤ 1048576) : Fn prog 24 [.int .i64 stock, .sl false 5 (rowsD xs)] (fun rs => rs = restsR stock xs) := by
  refine Fn_of' (fn := f24) (by exact func24) c24 r24 (n := 11) (by rfl) (rv := [.tmp 4, .tmp 5]) (by rfl) (by simp) ?_
  unfold m24
  try simp only [↓wA0, ↓wA1, ↓wA2, ↓wA3, ↓wA4, wB, Option.some.injEq, List.getElem?_cons_zero, List.getElem?_cons_succ, List.getElem?_nil, List.set_cons_zero, List.set_cons_succ, List.length_cons, List.length_nil, List.length_append, List.cons_append, List.nil_append, List.append_nil, List.any_cons, List.any_nil, List.all_cons, List.all_nil, List.map_cons, List.map_nil, if_true, if_false, beq_self_eq_true, ne_eq, eq_self, beq_iff_eq, List.append_assoc, ↓onNck, ↓look, ↓putE, evL, argsS, partsS, firstS, mkOb, evF, evS, evOO, initE, keepE, boxOf, valOf, slOf, stOf, lenOf, killL, kill, killO, refA, ref0, refV, addRes, resS, resSV, D.pre, D.nth, D.size, D.len, dget, doff, dset, D.setN, D.noOwn, D.unown, D.app, ofL, List.replicate, Nat.reduceEqDiff, Nat.reduceAdd, Nat.reduceSub, reduceIte, reduceCtorEq, Nat.reduceBEq, sz25]
  refine call_det (restsAfter_fn stock xs hlen) rfl rfl ?_
  cases hg : good stock xs with
  | false =>
    try simp only [restsR, hg, ints_noOwn, ↓wA0, ↓wA1, ↓wA2, ↓wA3, ↓wA4, wB, Option.some.injEq, List.getElem?_cons_zero, List.getElem?_cons_succ, List.getElem?_nil, List.set_cons_zero, List.set_cons_succ, List.length_cons, List.length_nil, List.length_append, List.cons_append, List.nil_append, List.append_nil, List.any_cons, List.any_nil, List.all_cons, List.all_nil, List.map_cons, List.map_nil, if_true, if_false, beq_self_eq_true, ne_eq, eq_self, beq_iff_eq, List.append_assoc, ↓onNck, ↓look, ↓putE, evL, argsS, partsS, firstS, mkOb, evF, evS, evOO, initE, keepE, boxOf, valOf, slOf, stOf, lenOf, killL, kill, killO, refA, ref0, refV, addRes, resS, resSV, D.pre, D.nth, D.size, D.len, dget, doff, dset, D.setN, D.noOwn, D.unown, D.app, ofL, List.replicate, Nat.reduceEqDiff, Nat.reduceAdd, Nat.reduceSub, reduceIte, reduceCtorEq, Nat.reduceBEq, sz25]
  | true =>
    try simp only [restsR, hg, ints_noOwn, ↓wA0, ↓wA1, ↓wA2, ↓wA3, ↓wA4, wB, Option.some.injEq, List.getElem?_cons_zero, List.getElem?_cons_succ, List.getElem?_nil, List.set_cons_zero, List.set_cons_succ, List.length_cons, List.length_nil, List.length_append, List.cons_append, List.nil_append, List.append_nil, List.any_cons, List.any_nil, List.all_cons, List.all_nil, List.map_cons, List.map_nil, if_true, if_false, beq_self_eq_true, ne_eq, eq_self, beq_iff_eq, List.append_assoc, ↓onNck, ↓look, ↓putE, evL, argsS, partsS, firstS, mkOb, evF, evS, evOO, initE, keepE, boxOf, valOf, slOf, stOf, lenOf, killL, kill, killO, refA, ref0, refV, addRes, resS, resSV, D.pre, D.nth, D.size, D.len, dget, doff, dset, D.setN, D.noOwn, D.unown, D.app, ofL, List.replicate, Nat.reduceEqDiff, Nat.reduceAdd, Nat.reduceSub, reduceIte, reduceCtorEq, Nat.reduceBEq, sz25]
theorem law7_of (stock : Int) (xs : List Row) (v : List Int) (b : Bool) (hlen : xs.length ≤ 1048576) (hv : v.length ≤ 1048576) (hS : Fn prog 23 [.int .i64 stock, .sl false 5 (rowsD xs)] (fun rs => rs = [.sl true 1 (dl iD v), .bool b])) (hI : Fn prog 24 [.int .i64 stock, .sl false 5 (rowsD xs)] (fun rs => rs = [.sl true 1 (dl iD v), .bool b])) :
    Fn prog 7 [.int .i64 stock, .sl false 5 (rowsD xs)] (fun rs => rs = [.bool true]) := by
  have hm : xs.length ≤ maxLen := Nat.le_trans hlen (by decide)
  have e1 : (if (1048576 : Int) - xs.length < 0 then (-1 : Int) else 1048576 - xs.length) = 1048576 - xs.length := if_neg (by omega)
  have e2 : decide ((1048576 : Int) - xs.length < 0) = false := decide_eq_false (by omega)
  have e3 : decide ((1 + 5 * (xs.length : Int)) < 0) = false := decide_eq_false (by omega)
  have e4 : decide ((1 + (v.length : Int)) < 0) = false := decide_eq_false (by omega)
  refine Fn_of' (fn := f7) (by exact func7) c7 r7 (n := 101) (by rfl) (rv := [.tmp 4]) (by rfl) (by simp) ?_
  unfold m7
  try simp only [↓wA0, ↓wA1, ↓wA2, ↓wA3, ↓wA4, wB, Option.some.injEq, List.getElem?_cons_zero, List.getElem?_cons_succ, List.getElem?_nil, List.set_cons_zero, List.set_cons_succ, List.length_cons, List.length_nil, List.length_append, List.cons_append, List.nil_append, List.append_nil, List.any_cons, List.any_nil, List.all_cons, List.all_nil, List.map_cons, List.map_nil, if_true, if_false, beq_self_eq_true, ne_eq, eq_self, beq_iff_eq, List.append_assoc, ↓onNck, ↓look, ↓putE, evL, argsS, partsS, firstS, mkOb, evF, evS, evOO, initE, keepE, boxOf, valOf, slOf, stOf, lenOf, killL, kill, killO, refA, ref0, refV, addRes, resS, resSV, D.pre, D.nth, D.size, D.len, dget, doff, dset, D.setN, D.noOwn, D.unown, D.app, ofL, List.replicate, Nat.reduceEqDiff, Nat.reduceAdd, Nat.reduceSub, reduceIte, reduceCtorEq, Nat.reduceBEq, sz25]
  refine call_det (szYearRowS_fn xs 1048576 (by omega) (by omega) hm) rfl rfl ?_
  try simp only [e1, e2, ↓wA0, ↓wA1, ↓wA2, ↓wA3, ↓wA4, wB, Option.some.injEq, List.getElem?_cons_zero, List.getElem?_cons_succ, List.getElem?_nil, List.set_cons_zero, List.set_cons_succ, List.length_cons, List.length_nil, List.length_append, List.cons_append, List.nil_append, List.append_nil, List.any_cons, List.any_nil, List.all_cons, List.all_nil, List.map_cons, List.map_nil, if_true, if_false, beq_self_eq_true, ne_eq, eq_self, beq_iff_eq, List.append_assoc, ↓onNck, ↓look, ↓putE, evL, argsS, partsS, firstS, mkOb, evF, evS, evOO, initE, keepE, boxOf, valOf, slOf, stOf, lenOf, killL, kill, killO, refA, ref0, refV, addRes, resS, resSV, D.pre, D.nth, D.size, D.len, dget, doff, dset, D.setN, D.noOwn, D.unown, D.app, ofL, List.replicate, Nat.reduceEqDiff, Nat.reduceAdd, Nat.reduceSub, reduceIte, reduceCtorEq, Nat.reduceBEq, sz25]
  refine call_det (toYearRowS_fn xs hlen) rfl rfl ?_
  try simp only [rows_noOwn, ↓wA0, ↓wA1, ↓wA2, ↓wA3, ↓wA4, wB, Option.some.injEq, List.getElem?_cons_zero, List.getElem?_cons_succ, List.getElem?_nil, List.set_cons_zero, List.set_cons_succ, List.length_cons, List.length_nil, List.length_append, List.cons_append, List.nil_append, List.append_nil, List.any_cons, List.any_nil, List.all_cons, List.all_nil, List.map_cons, List.map_nil, if_true, if_false, beq_self_eq_true, ne_eq, eq_self, beq_iff_eq, List.append_assoc, ↓onNck, ↓look, ↓putE, evL, argsS, partsS, firstS, mkOb, evF, evS, evOO, initE, keepE, boxOf, valOf, slOf, stOf, lenOf, killL, kill, killO, refA, ref0, refV, addRes, resS, resSV, D.pre, D.nth, D.size, D.len, dget, doff, dset, D.setN, D.noOwn, D.unown, D.app, ofL, List.replicate, Nat.reduceEqDiff, Nat.reduceAdd, Nat.reduceSub, reduceIte, reduceCtorEq, Nat.reduceBEq, sz25]
  refine call_det hS (by simp [argsD, argD, valOf, D.unown, rows_unown]) (by simp [D.allOwn, ints_allOwn]) ?_
  try simp only [ints_noOwn, ↓wA0, ↓wA1, ↓wA2, ↓wA3, ↓wA4, wB, Option.some.injEq, List.getElem?_cons_zero, List.getElem?_cons_succ, List.getElem?_nil, List.set_cons_zero, List.set_cons_succ, List.length_cons, List.length_nil, List.length_append, List.cons_append, List.nil_append, List.append_nil, List.any_cons, List.any_nil, List.all_cons, List.all_nil, List.map_cons, List.map_nil, if_true, if_false, beq_self_eq_true, ne_eq, eq_self, beq_iff_eq, List.append_assoc, ↓onNck, ↓look, ↓putE, evL, argsS, partsS, firstS, mkOb, evF, evS, evOO, initE, keepE, boxOf, valOf, slOf, stOf, lenOf, killL, kill, killO, refA, ref0, refV, addRes, resS, resSV, D.pre, D.nth, D.size, D.len, dget, doff, dset, D.setN, D.noOwn, D.unown, D.app, ofL, List.replicate, Nat.reduceEqDiff, Nat.reduceAdd, Nat.reduceSub, reduceIte, reduceCtorEq, Nat.reduceBEq, sz25]
  refine call_det (toYearRowS_fn xs hlen) rfl rfl ?_
  try simp only [rows_noOwn, ↓wA0, ↓wA1, ↓wA2, ↓wA3, ↓wA4, wB, Option.some.injEq, List.getElem?_cons_zero, List.getElem?_cons_succ, List.getElem?_nil, List.set_cons_zero, List.set_cons_succ, List.length_cons, List.length_nil, List.length_append, List.cons_append, List.nil_append, List.append_nil, List.any_cons, List.any_nil, List.all_cons, List.all_nil, List.map_cons, List.map_nil, if_true, if_false, beq_self_eq_true, ne_eq, eq_self, beq_iff_eq, List.append_assoc, ↓onNck, ↓look, ↓putE, evL, argsS, partsS, firstS, mkOb, evF, evS, evOO, initE, keepE, boxOf, valOf, slOf, stOf, lenOf, killL, kill, killO, refA, ref0, refV, addRes, resS, resSV, D.pre, D.nth, D.size, D.len, dget, doff, dset, D.setN, D.noOwn, D.unown, D.app, ofL, List.replicate, Nat.reduceEqDiff, Nat.reduceAdd, Nat.reduceSub, reduceIte, reduceCtorEq, Nat.reduceBEq, sz25]
  refine call_det hI (by simp [argsD, argD, valOf, D.unown, rows_unown]) (by simp [D.allOwn, ints_allOwn]) ?_
  try simp only [ints_noOwn, ↓wA0, ↓wA1, ↓wA2, ↓wA3, ↓wA4, wB, Option.some.injEq, List.getElem?_cons_zero, List.getElem?_cons_succ, List.getElem?_nil, List.set_cons_zero, List.set_cons_succ, List.length_cons, List.length_nil, List.length_append, List.cons_append, List.nil_append, List.append_nil, List.any_cons, List.any_nil, List.all_cons, List.all_nil, List.map_cons, List.map_nil, if_true, if_false, beq_self_eq_true, ne_eq, eq_self, beq_iff_eq, List.append_assoc, ↓onNck, ↓look, ↓putE, evL, argsS, partsS, firstS, mkOb, evF, evS, evOO, initE, keepE, boxOf, valOf, slOf, stOf, lenOf, killL, kill, killO, refA, ref0, refV, addRes, resS, resSV, D.pre, D.nth, D.size, D.len, dget, doff, dset, D.setN, D.noOwn, D.unown, D.app, ofL, List.replicate, Nat.reduceEqDiff, Nat.reduceAdd, Nat.reduceSub, reduceIte, reduceCtorEq, Nat.reduceBEq, sz25]
  have hmi := markIntS_fn v hv
  have hh := heldIntS_fn v.length hv
  repeat' (first
      | (simp only [e3, e4, rows_noOwn, ints_noOwn, ↓wA0, ↓wA1, ↓wA2, ↓wA3, ↓wA4, wB, Option.some.injEq, List.getElem?_cons_zero, List.getElem?_cons_succ, List.getElem?_nil, List.set_cons_zero, List.set_cons_succ, List.length_cons, List.length_nil, List.length_append, List.cons_append, List.nil_append, List.append_nil, List.any_cons, List.any_nil, List.all_cons, List.all_nil, List.map_cons, List.map_nil, if_true, if_false, beq_self_eq_true, ne_eq, eq_self, beq_iff_eq, List.append_assoc, ↓onNck, ↓look, ↓putE, evL, argsS, partsS, firstS, mkOb, evF, evS, evOO, initE, keepE, boxOf, valOf, slOf, stOf, lenOf, killL, kill, killO, refA, ref0, refV, addRes, resS, resSV, D.pre, D.nth, D.size, D.len, dget, doff, dset, D.setN, D.noOwn, D.unown, D.app, ofL, List.replicate, Nat.reduceEqDiff, Nat.reduceAdd, Nat.reduceSub, reduceIte, reduceCtorEq, Nat.reduceBEq, sz25])
      | (refine call_det (eqIntS_refl v hv) (by simp [argsD, argD, valOf, D.unown, ints_unown]) rfl ?_)
      | (refine call_det (toYearRowS_fn xs hlen) rfl rfl ?_)
      | (refine call_det (eqYearRowS_refl xs hlen) (by simp [argsD, argD, valOf, D.unown, rows_unown]) rfl ?_)
      | (refine callM_rel (bx := false) (r := 2) (ss := [.d (.int .i64 1)]) (markYearRowS_fn xs hlen) rfl rfl rfl ?_; rintro y rs ⟨⟨ys, rfl, hys⟩, rfl⟩)
      | (refine callM_det (bx := false) (r := 3) (ss := [.d (.int .i64 1)]) hmi rfl rfl rfl ?_)
      | (refine call_det hh (by simp [argsD, argD, valOf, D.unown, ints_unown]) rfl ?_)
      | (refine call_det hI (by simp [argsD, argD, valOf, D.unown, rows_unown]) (by simp [D.allOwn, ints_allOwn]) ?_)
      | (refine execG_split (fun h => ?_) (fun h => ?_) <;> simp only [h])
      | (refine execC_split (fun h => ?_) (fun h => ?_) <;> (try simp only [h]))
      | (refine onPick_split (fun h => ?_) (fun h => ?_) <;> (try simp only [h])))
  all_goals trace_state
  all_goals simp_all
theorem law7_fn (stock : Int) (xs : List Row) (hs : InR .i64 stock) (hm : xs.length ≤ maxLen) : Fn prog 7 [.int .i64 stock, .sl false 5 (rowsD xs)] (fun rs => rs = [.bool true]) := by
  by_cases hlen : xs.length ≤ 1048576
  · have hS := specRestsAfter_fn stock xs hs hlen
    have hI := implRestsAfter_fn stock xs hlen
    cases hg : good stock xs with
    | true =>
      simp only [restsR, hg, if_true] at hS hI
      exact law7_of stock xs (rests stock xs) true hlen (by rw [rests_len]; exact hlen) hS hI
    | false =>
      simp only [restsR, hg, Bool.false_eq_true, if_false] at hS hI
      exact law7_of stock xs [] false hlen (by simp) hS hI
  · have e1 : (if (1048576 : Int) - xs.length < 0 then (-1 : Int) else 1048576 - xs.length) = -1 := if_pos (by omega)
    have e2 : decide ((-1 : Int) < 0) = true := by decide
    refine Fn_of' (fn := f7) (by exact func7) c7 r7 (n := 101) (by rfl) (rv := [.tmp 4]) (by rfl) (by simp) ?_
    unfold m7
    try simp only [↓wA0, ↓wA1, ↓wA2, ↓wA3, ↓wA4, wB, Option.some.injEq, List.getElem?_cons_zero, List.getElem?_cons_succ, List.getElem?_nil, List.set_cons_zero, List.set_cons_succ, List.length_cons, List.length_nil, List.length_append, List.cons_append, List.nil_append, List.append_nil, List.any_cons, List.any_nil, List.all_cons, List.all_nil, List.map_cons, List.map_nil, if_true, if_false, beq_self_eq_true, ne_eq, eq_self, beq_iff_eq, List.append_assoc, ↓onNck, ↓look, ↓putE, evL, argsS, partsS, firstS, mkOb, evF, evS, evOO, initE, keepE, boxOf, valOf, slOf, stOf, lenOf, killL, kill, killO, refA, ref0, refV, addRes, resS, resSV, D.pre, D.nth, D.size, D.len, dget, doff, dset, D.setN, D.noOwn, D.unown, D.app, ofL, List.replicate, Nat.reduceEqDiff, Nat.reduceAdd, Nat.reduceSub, reduceIte, reduceCtorEq, Nat.reduceBEq, sz25]
    refine call_det (szYearRowS_fn xs 1048576 (by omega) (by omega) hm) rfl rfl ?_
    try simp only [e1, e2, ↓wA0, ↓wA1, ↓wA2, ↓wA3, ↓wA4, wB, Option.some.injEq, List.getElem?_cons_zero, List.getElem?_cons_succ, List.getElem?_nil, List.set_cons_zero, List.set_cons_succ, List.length_cons, List.length_nil, List.length_append, List.cons_append, List.nil_append, List.append_nil, List.any_cons, List.any_nil, List.all_cons, List.all_nil, List.map_cons, List.map_nil, if_true, if_false, beq_self_eq_true, ne_eq, eq_self, beq_iff_eq, List.append_assoc, ↓onNck, ↓look, ↓putE, evL, argsS, partsS, firstS, mkOb, evF, evS, evOO, initE, keepE, boxOf, valOf, slOf, stOf, lenOf, killL, kill, killO, refA, ref0, refV, addRes, resS, resSV, D.pre, D.nth, D.size, D.len, dget, doff, dset, D.setN, D.noOwn, D.unown, D.app, ofL, List.replicate, Nat.reduceEqDiff, Nat.reduceAdd, Nat.reduceSub, reduceIte, reduceCtorEq, Nat.reduceBEq, sz25]
theorem law7 (x0 x1 : D) (h0 : Typed (.int .i64) x0) (h1 : Typed (.sl 5 rowSh) x1) : Fn prog 7 [x0, x1] (fun rs => rs = [.bool true]) :=
  stockRows (P := fun a b => Fn prog 7 [a, b] (fun rs => rs = [.bool true])) law7_fn x0 x1 h0 h1
end Go.Pe.Try
