/- Sizes, equality with itself, what is gone. -/
import Derived.Test.YtepedloehigedaaYr3
import Derived.Test.YtepedloehigedaaPeC
set_option maxRecDepth 100000
set_option maxHeartbeats 4000000
set_option linter.all false
namespace Go.Pe.Try
open Go.Proofs.Try
theorem szYearRowS_fn (xs : List Row) (n : Int) (h0 : 0 ≤ n) (h1 : n ≤ 1048576) (hlen : xs.length ≤ maxLen) : Fn prog 14 [.sl false 5 (rowsD xs), .int .i64 n] (fun rs => rs = [.int .i64 (if n - xs.length < 0 then -1 else n - xs.length)]) := by
  have hm : maxLen = 9223372036854775807 := by rfl
  refine Fn_of' (fn := f14) (by exact func14) c14 r14 (n := 12) (by rfl) (rv := [.tmp 4]) (by rfl) (by simp) ?_
  unfold m14
  simp only [dl_len, ↓wA0, ↓wA1, ↓wA2, ↓wA3, ↓wA4, wB, Option.some.injEq, List.getElem?_cons_zero, List.getElem?_cons_succ, List.getElem?_nil, List.set_cons_zero, List.set_cons_succ, List.length_cons, List.length_nil, List.length_append, List.cons_append, List.nil_append, List.append_nil, List.any_cons, List.any_nil, List.all_cons, List.all_nil, List.map_cons, List.map_nil, if_true, if_false, beq_self_eq_true, ne_eq, eq_self, beq_iff_eq, List.append_assoc, ↓onNck, ↓look, ↓putE, evL, argsS, partsS, firstS, mkOb, evF, evS, evOO, initE, keepE, boxOf, valOf, slOf, stOf, lenOf, killL, kill, killO, refA, ref0, refV, addRes, resS, resSV, D.pre, D.nth, D.size, D.len, dget, doff, dset, D.setN, D.noOwn, D.unown, D.app, ofL, List.replicate, Nat.reduceEqDiff, Nat.reduceAdd, Nat.reduceSub, reduceIte, reduceCtorEq, Nat.reduceBEq, sz25]
  refine onI_bare (by simp only [InR]; omega) ?_
  simp only [↓wA0, ↓wA1, ↓wA2, ↓wA3, ↓wA4, wB, Option.some.injEq, List.getElem?_cons_zero, List.getElem?_cons_succ, List.getElem?_nil, List.set_cons_zero, List.set_cons_succ, List.length_cons, List.length_nil, List.length_append, List.cons_append, List.nil_append, List.append_nil, List.any_cons, List.any_nil, List.all_cons, List.all_nil, List.map_cons, List.map_nil, if_true, if_false, beq_self_eq_true, ne_eq, eq_self, beq_iff_eq, List.append_assoc, ↓onNck, ↓look, ↓putE, evL, argsS, partsS, firstS, mkOb, evF, evS, evOO, initE, keepE, boxOf, valOf, slOf, stOf, lenOf, killL, kill, killO, refA, ref0, refV, addRes, resS, resSV, D.pre, D.nth, D.size, D.len, dget, doff, dset, D.setN, D.noOwn, D.unown, D.app, ofL, List.replicate, Nat.reduceEqDiff, Nat.reduceAdd, Nat.reduceSub, reduceIte, reduceCtorEq, Nat.reduceBEq, sz25]
  refine execC_split (fun h => ?_) (fun h => ?_) <;> simp only [↓wA0, ↓wA1, ↓wA2, ↓wA3, ↓wA4, wB, Option.some.injEq, List.getElem?_cons_zero, List.getElem?_cons_succ, List.getElem?_nil, List.set_cons_zero, List.set_cons_succ, List.length_cons, List.length_nil, List.length_append, List.cons_append, List.nil_append, List.append_nil, List.any_cons, List.any_nil, List.all_cons, List.all_nil, List.map_cons, List.map_nil, if_true, if_false, beq_self_eq_true, ne_eq, eq_self, beq_iff_eq, List.append_assoc, ↓onNck, ↓look, ↓putE, evL, argsS, partsS, firstS, mkOb, evF, evS, evOO, initE, keepE, boxOf, valOf, slOf, stOf, lenOf, killL, kill, killO, refA, ref0, refV, addRes, resS, resSV, D.pre, D.nth, D.size, D.len, dget, doff, dset, D.setN, D.noOwn, D.unown, D.app, ofL, List.replicate, Nat.reduceEqDiff, Nat.reduceAdd, Nat.reduceSub, reduceIte, reduceCtorEq, Nat.reduceBEq, sz25]
  · rw [if_pos (by simpa using h)]
  · rw [if_neg (by simpa using h)]
theorem eqYearRow_refl (r : Row) : Fn prog 45 [r.d, r.d] (fun rs => rs = [.bool true]) := by
  refine Fn_of' (fn := f45) (by exact func45) c45 r45 (n := 30) (by rfl) (rv := [.tmp 4]) (by rfl) (by simp) ?_
  unfold m45
  simp only [Row.d]
  simp only [↓wA0, ↓wA1, ↓wA2, ↓wA3, ↓wA4, wB, Option.some.injEq, List.getElem?_cons_zero, List.getElem?_cons_succ, List.getElem?_nil, List.set_cons_zero, List.set_cons_succ, List.length_cons, List.length_nil, List.length_append, List.cons_append, List.nil_append, List.append_nil, List.any_cons, List.any_nil, List.all_cons, List.all_nil, List.map_cons, List.map_nil, if_true, if_false, beq_self_eq_true, ne_eq, eq_self, beq_iff_eq, List.append_assoc, ↓onNck, ↓look, ↓putE, evL, argsS, partsS, firstS, mkOb, evF, evS, evOO, initE, keepE, boxOf, valOf, slOf, stOf, lenOf, killL, kill, killO, refA, ref0, refV, addRes, resS, resSV, D.pre, D.nth, D.size, D.len, dget, doff, dset, D.setN, D.noOwn, D.unown, D.app, ofL, List.replicate, Nat.reduceEqDiff, Nat.reduceAdd, Nat.reduceSub, reduceIte, reduceCtorEq, Nat.reduceBEq, sz25]
theorem eqYearRowS_refl (xs : List Row) (hlen : xs.length ≤ 1048576) : Fn prog 18 [.sl false 5 (rowsD xs), .sl false 5 (rowsD xs)] (fun rs => rs = [.bool true]) := by
  refine Fn_of' (fn := f18) (by exact func18) c18 r18 (n := 27) (by rfl) (rv := [.tmp 4]) (by rfl) (by simp) ?_
  unfold m18
  simp only [↓wA0, ↓wA1, ↓wA2, ↓wA3, ↓wA4, wB, Option.some.injEq, List.getElem?_cons_zero, List.getElem?_cons_succ, List.getElem?_nil, List.set_cons_zero, List.set_cons_succ, List.length_cons, List.length_nil, List.length_append, List.cons_append, List.nil_append, List.append_nil, List.any_cons, List.any_nil, List.all_cons, List.all_nil, List.map_cons, List.map_nil, if_true, if_false, beq_self_eq_true, ne_eq, eq_self, beq_iff_eq, List.append_assoc, ↓onNck, ↓look, ↓putE, evL, argsS, partsS, firstS, mkOb, evF, evS, evOO, initE, keepE, boxOf, valOf, slOf, stOf, lenOf, killL, kill, killO, refA, ref0, refV, addRes, resS, resSV, D.pre, D.nth, D.size, D.len, dget, doff, dset, D.setN, D.noOwn, D.unown, D.app, ofL, List.replicate, Nat.reduceEqDiff, Nat.reduceAdd, Nat.reduceSub, reduceIte, reduceCtorEq, Nat.reduceBEq, sz25]
  refine exec_loop (fun i : Nat => ⟨[(0, .d (.sl false 5 (rowsD xs))), (1, .d (.sl false 5 (rowsD xs))), (5, .d (.int .i64 i))], []⟩)
    (fun i => i ≤ xs.length) (fun i => xs.length - i) 0 (weak_of [] rfl ⟨⟨rfl, rfl⟩, ⟨rfl, rfl⟩, ⟨rfl, rfl⟩, trivial⟩) (Nat.zero_le _) ?_
  intro i hi
  by_cases hlt : i < xs.length
  · obtain ⟨r, hr⟩ := get_lt hlt
    have hd : decide ((i : Int) < (xs.length : Int)) = true := by simp; omega
    have h0 : (0 : Int) ≤ (i : Int) := by omega
    repeat' (first
        | (simp only [dl_len, dl_nth, hd, Int.toNat_natCast, hr, Option.map_some, ↓rd_row, h0, onC_true, ↓wA0, ↓wA1, ↓wA2, ↓wA3, ↓wA4, wB, Option.some.injEq, List.getElem?_cons_zero, List.getElem?_cons_succ, List.getElem?_nil, List.set_cons_zero, List.set_cons_succ, List.length_cons, List.length_nil, List.length_append, List.cons_append, List.nil_append, List.append_nil, List.any_cons, List.any_nil, List.all_cons, List.all_nil, List.map_cons, List.map_nil, if_true, if_false, beq_self_eq_true, ne_eq, eq_self, beq_iff_eq, List.append_assoc, ↓onNck, ↓look, ↓putE, evL, argsS, partsS, firstS, mkOb, evF, evS, evOO, initE, keepE, boxOf, valOf, slOf, stOf, lenOf, killL, kill, killO, refA, ref0, refV, addRes, resS, resSV, D.pre, D.nth, D.size, D.len, dget, doff, dset, D.setN, D.noOwn, D.unown, D.app, ofL, List.replicate, Nat.reduceEqDiff, Nat.reduceAdd, Nat.reduceSub, reduceIte, reduceCtorEq, Nat.reduceBEq, sz25])
        | (refine call_det (eqYearRow_refl r) rfl rfl ?_)
        | (refine callP_det (eqYearRow_refl r) rfl rfl ?_)
        | (refine execG_split (fun h => ?_) (fun h => ?_) <;> simp only [h])
        | (refine execC_split (fun h => ?_) (fun h => ?_) <;> (try simp only [h]))
        | (refine onPick_split (fun h => ?_) (fun h => ?_) <;> (try simp only [h])))
    refine onI_bare (by simp only [InR]; omega) ?_
    exact ⟨i + 1, weak_of [] rfl ⟨⟨rfl, rfl⟩, ⟨rfl, rfl⟩, ⟨rfl, rfl⟩, trivial⟩, by omega, by omega⟩
  · have hd : decide ((i : Int) < (xs.length : Int)) = false := by simp; omega
    simp only [dl_len, hd, ↓wA0, ↓wA1, ↓wA2, ↓wA3, ↓wA4, wB, Option.some.injEq, List.getElem?_cons_zero, List.getElem?_cons_succ, List.getElem?_nil, List.set_cons_zero, List.set_cons_succ, List.length_cons, List.length_nil, List.length_append, List.cons_append, List.nil_append, List.append_nil, List.any_cons, List.any_nil, List.all_cons, List.all_nil, List.map_cons, List.map_nil, if_true, if_false, beq_self_eq_true, ne_eq, eq_self, beq_iff_eq, List.append_assoc, ↓onNck, ↓look, ↓putE, evL, argsS, partsS, firstS, mkOb, evF, evS, evOO, initE, keepE, boxOf, valOf, slOf, stOf, lenOf, killL, kill, killO, refA, ref0, refV, addRes, resS, resSV, D.pre, D.nth, D.size, D.len, dget, doff, dset, D.setN, D.noOwn, D.unown, D.app, ofL, List.replicate, Nat.reduceEqDiff, Nat.reduceAdd, Nat.reduceSub, reduceIte, reduceCtorEq, Nat.reduceBEq, sz25]
def Row.gone (r : Row) : Int := r.k + r.x + r.g
theorem ok_bounds {r : Row} (h : r.ok = true) : 1900 ≤ r.y ∧ r.y ≤ 2200 ∧ 0 ≤ r.m ∧ r.m ≤ 9999 ∧ 0 ≤ r.k ∧ r.k ≤ 9999 ∧ 0 ≤ r.x ∧ r.x ≤ 9999 ∧ 0 ≤ r.g ∧ r.g ≤ 9999 := by
  simp only [Row.ok, isCount, within, Bool.and_eq_true, decide_eq_true_eq] at h
  omega
theorem l26Gone_fn (r : Row) (h : r.ok = true) : Fn prog 47 [r.d] (fun rs => rs = [.int .i64 r.gone]) := by
  have hb := ok_bounds h
  refine Fn_of' (fn := f47) (by exact func47) c47 r47 (n := 11) (by rfl) (rv := [.tmp 2]) (by rfl) (by simp) ?_
  unfold m47
  simp only [Row.d]
  repeat' (first
      | (simp only [↓wA0, ↓wA1, ↓wA2, ↓wA3, ↓wA4, wB, Option.some.injEq, List.getElem?_cons_zero, List.getElem?_cons_succ, List.getElem?_nil, List.set_cons_zero, List.set_cons_succ, List.length_cons, List.length_nil, List.length_append, List.cons_append, List.nil_append, List.append_nil, List.any_cons, List.any_nil, List.all_cons, List.all_nil, List.map_cons, List.map_nil, if_true, if_false, beq_self_eq_true, ne_eq, eq_self, beq_iff_eq, List.append_assoc, ↓onNck, ↓look, ↓putE, evL, argsS, partsS, firstS, mkOb, evF, evS, evOO, initE, keepE, boxOf, valOf, slOf, stOf, lenOf, killL, kill, killO, refA, ref0, refV, addRes, resS, resSV, D.pre, D.nth, D.size, D.len, dget, doff, dset, D.setN, D.noOwn, D.unown, D.app, ofL, List.replicate, Nat.reduceEqDiff, Nat.reduceAdd, Nat.reduceSub, reduceIte, reduceCtorEq, Nat.reduceBEq, sz25])
      | (refine onI_bare (by simp only [InR]; omega) ?_)
      | (refine execG_split (fun h => ?_) (fun h => ?_) <;> simp only [h])
      | (refine execC_split (fun h => ?_) (fun h => ?_) <;> (try simp only [h]))
      | (refine onPick_split (fun h => ?_) (fun h => ?_) <;> (try simp only [h])))
  rfl
theorem gone_fn (r : Row) (h : r.ok = true) : Fn prog 48 [r.d] (fun rs => rs = [.int .i64 r.gone]) := by
  have hb := ok_bounds h
  refine Fn_of' (fn := f48) (by exact func48) c48 r48 (n := 11) (by rfl) (rv := [.tmp 2]) (by rfl) (by simp) ?_
  unfold m48
  simp only [Row.d]
  repeat' (first
      | (simp only [↓wA0, ↓wA1, ↓wA2, ↓wA3, ↓wA4, wB, Option.some.injEq, List.getElem?_cons_zero, List.getElem?_cons_succ, List.getElem?_nil, List.set_cons_zero, List.set_cons_succ, List.length_cons, List.length_nil, List.length_append, List.cons_append, List.nil_append, List.append_nil, List.any_cons, List.any_nil, List.all_cons, List.all_nil, List.map_cons, List.map_nil, if_true, if_false, beq_self_eq_true, ne_eq, eq_self, beq_iff_eq, List.append_assoc, ↓onNck, ↓look, ↓putE, evL, argsS, partsS, firstS, mkOb, evF, evS, evOO, initE, keepE, boxOf, valOf, slOf, stOf, lenOf, killL, kill, killO, refA, ref0, refV, addRes, resS, resSV, D.pre, D.nth, D.size, D.len, dget, doff, dset, D.setN, D.noOwn, D.unown, D.app, ofL, List.replicate, Nat.reduceEqDiff, Nat.reduceAdd, Nat.reduceSub, reduceIte, reduceCtorEq, Nat.reduceBEq, sz25])
      | (refine onI_bare (by simp only [InR]; omega) ?_)
      | (refine execG_split (fun h => ?_) (fun h => ?_) <;> simp only [h])
      | (refine execC_split (fun h => ?_) (fun h => ?_) <;> (try simp only [h]))
      | (refine onPick_split (fun h => ?_) (fun h => ?_) <;> (try simp only [h])))
  rfl
theorem fa_row0 {r : Row} {K : SV → Prop} : stepFa 0 0 (.d (.ptr r.d)) K = K (.d (.ptr (.int .i64 r.y))) := by simp [Row.d, stepFa, D.pre, D.nth]
theorem fa_row1 {r : Row} {K : SV → Prop} : stepFa 1 1 (.d (.ptr r.d)) K = K (.d (.ptr (.int .i64 r.m))) := by simp [Row.d, stepFa, D.pre, D.nth, D.size]
theorem fa_row3 {r : Row} {K : SV → Prop} : stepFa 3 3 (.d (.ptr r.d)) K = K (.d (.ptr (.int .i64 r.x))) := by simp [Row.d, stepFa, D.pre, D.nth, D.size]
end Go.Pe.Try
