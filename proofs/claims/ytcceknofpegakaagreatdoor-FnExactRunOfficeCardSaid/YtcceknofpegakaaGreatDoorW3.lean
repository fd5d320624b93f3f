/- Steps of an office: a step with a case; walked; Steps of an office: a step; walked; Steps of an office: the program's StepOffice; walked; Runs of steps of an office: the program's RunOffice; walked; Steps of an office: the reference's own copy; walked; Steps of an office: the reference's l25Step, l25Enter; walked; Steps of an office: the reference's l25Release; walked; A party heard, walked; A party heard as the reference has it, walked; Steps of an office: the reference's l25Act; walked -/
import Derived.Test.YtcceknofpegakaaGreatDoorW2
import Derived.Test.YtcceknofpegakaaGreatDoorPeD
import Derived.Test.YtcceknofpegakaaGreatDoorMc1
import Derived.Test.YtcceknofpegakaaGreatDoorMc2
import Derived.Test.YtcceknofpegakaaGreatDoorMc3
import Derived.Test.YtcceknofpegakaaGreatDoorMc4
set_option maxRecDepth 100000
set_option maxHeartbeats 4000000
set_option linter.all false
namespace Go.Pe.Tryz
open Nat (reduceEqDiff reduceAdd reduceSub reduceLT)
open Go.Proofs.Tryz
def stD (k id a v : Int) : D := .st (.cons (.int .i64 k) (.cons (.int .i64 id) (.cons (.int .i64 a) (.cons (.int .i64 v) .nil))))
theorem stD_noOwn {k id a v : Int} : (stD k id a v).noOwn = true := rfl
theorem stD_isV {k id a v : Int} : (stD k id a v).isV = true := rfl
theorem stD_size {k id a v : Int} : (stD k id a v).size = 4 := rfl
theorem stD_unown {k id a v : Int} : (stD k id a v).unown = stD k id a v := rfl
theorem rd_st4 {o : List Ob} {K : SV → Prop} {k id a v : Int} : stepRd o (some 4) (stD k id a v) K = K (.d (stD k id a v)) := by simp [stD, stepRd, D.size, D.noOwn]
def OutR (r : Option Off) (x' : D) (rs : List D) : Prop := rs = [.bool r.isSome] ∧ ∀ o', r = some o' → x' = o'.o
theorem outR_no {r : Option Off} {x' : D} (h : r = none) : OutR r x' [.bool false] := ⟨by rw [h]; rfl, fun o' e => by rw [h] at e; cases e⟩
theorem outR_yes {r : Option Off} {x' : D} {o' : Off} (h : r = some o') (hx : x' = o'.o) : OutR r x' [.bool true] := ⟨by rw [h]; rfl, fun o'' e => by rw [h] at e; injection e with e; rw [← e, hx]⟩
def caseO (o : Off) (i : Nat) (x : Cs) (k v : Int) : Option Off :=
  if k = 3 then (if x.h.contains v = true then none else some { o with cs := o.cs.set i { x with h := putI v x.h } })
  else if k = 5 then (if 1 ≤ v then some { o with cs := o.cs.set i { x with d := x.d + v } } else none)
  else if k = 6 then (if v = 0 ∧ dealB o x = true then some (outO o i x) else none)
  else none
theorem stepCase_fn (o : Off) (i : Nat) (x : Cs) (k id a v : Int) (ho : offOK o = true) (hr : o.cs[i]? = some x) (hv0 : 0 ≤ v) (hv1 : v ≤ 20000) : FnM prog 175 true o.o [.int .i64 i, stD k id a v] (OutR (caseO o i x k v)) := by
  have hp := off_parts ho
  have hx := case_parts (hp.2.2.2.2.2.2.2.2.2 x (List.mem_of_getElem? hr))
  have hil := lt_of_get hr
  have hi0 : (0 : Int) ≤ (i : Int) := by omega
  have hgn : (dl Cs.o o.cs).nth i = some (x.p (.sl true 1 (dl iD x.h))) := by rw [dl_nth, hr]; rfl
  have hgs : ∀ (y : D), ((dl Cs.o o.cs).setN i y).nth i = some y := fun y => by rw [setN_nth, if_pos rfl, hgn]; rfl
  have hxo : x.h.length ≤ 1048576 := by omega
  have hdl : (1 : Int) ≤ o.cs.length := by omega
  cases h3 : decide (k = 3) with
  | true =>
    have h3' := of_decide_eq_true h3
    have hC := containsI_fn x.h v hxo
    have hC' : Fn prog 135 [.sl false 1 (dl iD x.h).unown, .int .i64 v] (fun rs => rs = [.bool (x.h.contains v)]) := by rw [ints_unown]; exact hC
    have hO : caseO o i x k v = if x.h.contains v = true then none else some { o with cs := o.cs.set i { x with h := putI v x.h } } := if_pos h3'
    refine FnM_ofg (ps := [[1, 1, 0, 1, 0, 1, 0, 1, 1, 1, 0], [1, 1, 0, 1, 0, 1, 0, 1, 1, 1, 0], [1, 1, 0, 1, 0, 1, 0, 1, 1, 0], [1, 1, 0, 1, 0, 1, 0, 0, 0], [1, 0]]) (fn := f175) (by exact func175) c175 r175 (n := 65) (by rfl) (rv := [.tmp 6]) (by rfl) (by decide) (by simp) ?_
    unfold m175
    try simp only [wQ]
    simp only [ghAll, ghAt]
    simp only [Off.o, offP, stD]
    repeat' (first | (simp only [onC_true, ↓wA, ↓wC, wB, frzBE, frzBS, reduceEqDiff, reduceAdd, reduceSub, reduceIte, reduceCtorEq, Nat.reduceBEq, reduceLT]) | ((first | apply execG_split | apply execC_split | apply onPick_split) <;> intro h <;> try simp only [h]))
    refine exec_gh _ (unlink 0 none [1] (es := 4) (xs := dl Cs.o o.cs) rfl rfl) fun v1 => ?_
    simp only [obSet, ↓wA, ↓wC, wB, frzBE, frzBS, reduceEqDiff, reduceAdd, reduceSub, reduceIte, reduceCtorEq, Nat.reduceBEq, reduceLT]
    repeat' (first | (simp only [hi0, Int.toNat_natCast, hgn, hgs, h3, onC_true, ↓wA, ↓wC, wB, frzBE, frzBS, reduceEqDiff, reduceAdd, reduceSub, reduceIte, reduceCtorEq, Nat.reduceBEq, reduceLT]) | ((first | apply execG_split | apply execC_split | apply onPick_split) <;> intro h <;> try simp only [h]))
    refine exec_gh _ (unlink 2 (some i) [3] (es := 1) (xs := dl iD x.h) rfl (by simp only [obPart, hgn, Option.bind_some, dget_q3])) fun v2 => ?_
    simp only [obSet, hgn, Option.getD_some, dset_q3, ↓wA, ↓wC, wB, frzBE, frzBS, reduceEqDiff, reduceAdd, reduceSub, reduceIte, reduceCtorEq, Nat.reduceBEq, reduceLT]
    cases hc : x.h.contains v with
    | true =>
      rw [hc] at hC' hO
      repeat' (first | (simp only [hi0, Int.toNat_natCast, hgn, hgs, h3, onC_true, setN_setN, doff_q3, dget_q3, dset_q3, ↓wA, ↓wC, wB, frzBE, frzBS, reduceEqDiff, reduceAdd, reduceSub, reduceIte, reduceCtorEq, Nat.reduceBEq, reduceLT]) | (refine call_det (hC') rfl rfl ?_) | (refine callP_det (hC') rfl rfl ?_) | ((first | apply execG_split | apply execC_split | apply onPick_split) <;> intro h <;> try simp only [h]))
      all_goals exact outR_no (by rw [hO]; rfl)
    | false =>
      rw [hc] at hC' hO
      have hnv : v ∉ x.h := fun h => by rw [List.contains_iff_mem.2 h] at hc; cases hc
      have hS := sort_fn v x.h (risenOf hx.2.2.2.2.2.2.2.2) hnv (by omega)
      repeat' (first | (simp only [hi0, Int.toNat_natCast, hgn, hgs, h3, onC_true, setN_setN, doff_q3, dget_q3, dset_q3, doff_q2, dget_q2, dset_q2, app_int, dl_len, ↓wA, ↓wC, wB, frzBE, frzBS, reduceEqDiff, reduceAdd, reduceSub, reduceIte, reduceCtorEq, Nat.reduceBEq, reduceLT]) | (refine call_det (hC') rfl rfl ?_) | (refine callP_det (hC') rfl rfl ?_) | (refine onJ_q ?_) | (with_reducible refine onC_i ?_ ?_; focus (simp; done)) | (with_reducible refine onC_i ?_ ?_; focus omega) | ((first | apply execG_split | apply execC_split | apply onPick_split) <;> intro h <;> try simp only [h]))
      refine exec_gh _ (unlink 2 (some i) [3] (es := 1) (xs := dl iD (x.h ++ [v])) rfl (by simp only [obPart, hgs, Option.bind_some, dget_q3])) fun v3 => ?_
      simp only [obSet, hgs, Option.getD_some, dset_q3, setN_setN, ↓wA, ↓wC, wB, frzBE, frzBS, reduceEqDiff, reduceAdd, reduceSub, reduceIte, reduceCtorEq, Nat.reduceBEq, reduceLT]
      repeat' (first | (simp only [hi0, Int.toNat_natCast, hgn, hgs, h3, onC_true, setN_setN, doff_q3, dget_q3, dset_q3, doff_q2, dget_q2, dset_q2, app_int, dl_len, ↓wA, ↓wC, wB, frzBE, frzBS, reduceEqDiff, reduceAdd, reduceSub, reduceIte, reduceCtorEq, Nat.reduceBEq, reduceLT]) | ((first | apply execG_split | apply execC_split | apply onPick_split) <;> intro h <;> try simp only [h]))
      refine callM_det (bx := false) (r := 7) hS rfl rfl rfl ?_
      repeat' (first | (simp only [hi0, Int.toNat_natCast, hgn, hgs, h3, onC_true, setN_setN, doff_q3, dget_q3, dset_q3, doff_q2, dget_q2, dset_q2, app_int, dl_len, ↓wA, ↓wC, wB, frzBE, frzBS, reduceEqDiff, reduceAdd, reduceSub, reduceIte, reduceCtorEq, Nat.reduceBEq, reduceLT]) | ((first | apply execG_split | apply execC_split | apply onPick_split) <;> intro h <;> try simp only [h]))
      refine exec_gh1 (relink 2 8 7 (some i) [3] rfl (by simp only [obPart, hgs, Option.bind_some, dget_q3]) rfl rfl (by decide) rfl) ?_
      simp only [obSet, hgs, Option.getD_some, dset_q3, setN_setN, ↓wA, ↓wC, wB, frzBE, frzBS, reduceEqDiff, reduceAdd, reduceSub, reduceIte, reduceCtorEq, Nat.reduceBEq, reduceLT]
      refine exec_gh1 (relink 0 3 2 none [1] rfl rfl rfl rfl (by decide) rfl) ?_
      simp only [obSet, ↓wA, ↓wC, wB, frzBE, frzBS, reduceEqDiff, reduceAdd, reduceSub, reduceIte, reduceCtorEq, Nat.reduceBEq, reduceLT]
      repeat' (first | (simp only [hi0, Int.toNat_natCast, hgn, hgs, h3, onC_true, setN_setN, doff_q3, dget_q3, dset_q3, doff_q2, dget_q2, dset_q2, app_int, dl_len, ↓wA, ↓wC, wB, frzBE, frzBS, reduceEqDiff, reduceAdd, reduceSub, reduceIte, reduceCtorEq, Nat.reduceBEq, reduceLT]) | ((first | apply execG_split | apply execC_split | apply onPick_split) <;> intro h <;> try simp only [h]))
      have e : x.p (.sl true 1 (dl iD (putI v x.h))) = Cs.o { x with h := putI v x.h } := rfl
      all_goals refine outR_yes (o' := { o with cs := o.cs.set i { x with h := putI v x.h } }) (by rw [hO]; rfl) ?_
      rw [e, dl_setN]; rfl
  | false =>
    have h3' := of_decide_eq_false h3
    cases h5 : decide (k = 5) with
    | true =>
      have h5' := of_decide_eq_true h5
      have hO : caseO o i x k v = if 1 ≤ v then some { o with cs := o.cs.set i { x with d := x.d + v } } else none := by unfold caseO; rw [if_neg h3', if_pos h5']
      refine FnM_ofg (ps := [[1, 1, 0, 1, 0, 1, 1, 1, 0, 1, 1], [1, 0]]) (fn := f175) (by exact func175) c175 r175 (n := 65) (by rfl) (rv := [.tmp 6]) (by rfl) (by decide) (by simp) ?_
      unfold m175
      try simp only [wQ]
      simp only [ghAll, ghAt]
      simp only [Off.o, offP, stD]
      repeat' (first | (simp only [onC_true, ↓wA, ↓wC, wB, frzBE, frzBS, reduceEqDiff, reduceAdd, reduceSub, reduceIte, reduceCtorEq, Nat.reduceBEq, reduceLT]) | ((first | apply execG_split | apply execC_split | apply onPick_split) <;> intro h <;> try simp only [h]))
      refine exec_gh _ (unlink 0 none [1] (es := 4) (xs := dl Cs.o o.cs) rfl rfl) fun v1 => ?_
      simp only [obSet, ↓wA, ↓wC, wB, frzBE, frzBS, reduceEqDiff, reduceAdd, reduceSub, reduceIte, reduceCtorEq, Nat.reduceBEq, reduceLT]
      repeat' (first | (simp only [hi0, Int.toNat_natCast, hgn, hgs, h3, onC_true, setN_setN, doff_q3, dget_q3, dset_q3, doff_q2, dget_q2, dset_q2, app_int, dl_len, h5, ↓wA, ↓wC, wB, frzBE, frzBS, reduceEqDiff, reduceAdd, reduceSub, reduceIte, reduceCtorEq, Nat.reduceBEq, reduceLT]) | (refine onJ_q ?_) | (with_reducible refine onI_bare ?_ ?_; focus (simp only [InR]; omega)) | ((first | apply execG_split | apply execC_split | apply onPick_split) <;> intro h <;> try simp only [h]))
      refine exec_gh1 (relink 0 3 2 none [1] rfl rfl rfl rfl (by decide) rfl) ?_
      simp only [obSet, ↓wA, ↓wC, wB, frzBE, frzBS, reduceEqDiff, reduceAdd, reduceSub, reduceIte, reduceCtorEq, Nat.reduceBEq, reduceLT]
      repeat' (first | (simp only [hi0, Int.toNat_natCast, hgn, hgs, h3, onC_true, setN_setN, doff_q3, dget_q3, dset_q3, doff_q2, dget_q2, dset_q2, app_int, dl_len, ↓wA, ↓wC, wB, frzBE, frzBS, reduceEqDiff, reduceAdd, reduceSub, reduceIte, reduceCtorEq, Nat.reduceBEq, reduceLT]) | ((first | apply execG_split | apply execC_split | apply onPick_split) <;> intro h <;> try simp only [h]))
      have e : Cs.p { i := x.i, a := x.a, d := x.d + v, h := x.h } (.sl true 1 (dl iD x.h)) = Cs.o { x with d := x.d + v } := rfl
      by_cases hv : 1 ≤ v
      · rw [decide_eq_true hv]
        all_goals refine outR_yes (o' := { o with cs := o.cs.set i { x with d := x.d + v } }) (by rw [hO, if_pos hv]) ?_
        rw [e, dl_setN]; rfl
      · rw [decide_eq_false hv]
        exact outR_no (by rw [hO, if_neg hv])
    | false =>
      have h5' := of_decide_eq_false h5
      cases h6 : decide (k = 6) with
      | true =>
        have h6' := of_decide_eq_true h6
        have hO : caseO o i x k v = if v = 0 ∧ dealB o x = true then some (outO o i x) else none := by unfold caseO; rw [if_neg h3', if_neg h5', if_pos h6']
        refine FnM_ofg (ps := [[1, 1, 0, 1, 0, 1, 1, 1, 1, 1, 0, 0], [1, 0]]) (fn := f175) (by exact func175) c175 r175 (n := 65) (by rfl) (rv := [.tmp 6]) (by rfl) (by decide) (by simp) ?_
        unfold m175
        try simp only [wQ]
        simp only [ghAll, ghAt]
        simp only [Off.o, offP, stD]
        repeat' (first | (simp only [onC_true, ↓wA, ↓wC, wB, frzBE, frzBS, reduceEqDiff, reduceAdd, reduceSub, reduceIte, reduceCtorEq, Nat.reduceBEq, reduceLT]) | ((first | apply execG_split | apply execC_split | apply onPick_split) <;> intro h <;> try simp only [h]))
        refine exec_gh _ (unlink 0 none [1] (es := 4) (xs := dl Cs.o o.cs) rfl rfl) fun v1 => ?_
        simp only [obSet, ↓wA, ↓wC, wB, frzBE, frzBS, reduceEqDiff, reduceAdd, reduceSub, reduceIte, reduceCtorEq, Nat.reduceBEq, reduceLT]
        repeat' (first | (simp only [hi0, Int.toNat_natCast, hgn, hgs, h3, onC_true, setN_setN, doff_q3, dget_q3, dset_q3, doff_q2, dget_q2, dset_q2, app_int, dl_len, h5, h6, ↓wA, ↓wC, wB, frzBE, frzBS, reduceEqDiff, reduceAdd, reduceSub, reduceIte, reduceCtorEq, Nat.reduceBEq, reduceLT]) | (with_reducible refine onI_bare ?_ ?_; focus (simp only [InR]; omega)) | ((first | apply execG_split | apply execC_split | apply onPick_split) <;> intro h <;> try simp only [h]))
        refine exec_gh1 (relink 0 3 2 none [1] rfl rfl rfl rfl (by decide) rfl) ?_
        simp only [obSet, ↓wA, ↓wC, wB, frzBE, frzBS, reduceEqDiff, reduceAdd, reduceSub, reduceIte, reduceCtorEq, Nat.reduceBEq, reduceLT]
        by_cases hv : v = 0
        · have hvd : decide (v = 0) = true := decide_eq_true hv
          repeat' (first | (simp only [hi0, Int.toNat_natCast, hgn, hgs, h3, onC_true, setN_setN, doff_q3, dget_q3, dset_q3, doff_q2, dget_q2, dset_q2, app_int, dl_len, hvd, ↓wA, ↓wC, wB, frzBE, frzBS, reduceEqDiff, reduceAdd, reduceSub, reduceIte, reduceCtorEq, Nat.reduceBEq, reduceLT]) | ((first | apply execG_split | apply execC_split | apply onPick_split) <;> intro h <;> try simp only [h]))
          refine callM_rel (bx := true) (r := 0) (deal_fn o i x ho hr) rfl rfl rfl ?_
          rintro x' _ ⟨rfl, hy⟩
          repeat' (first | (simp only [hi0, Int.toNat_natCast, hgn, hgs, h3, onC_true, setN_setN, doff_q3, dget_q3, dset_q3, doff_q2, dget_q2, dset_q2, app_int, dl_len, hvd, ↓wA, ↓wC, wB, frzBE, frzBS, reduceEqDiff, reduceAdd, reduceSub, reduceIte, reduceCtorEq, Nat.reduceBEq, reduceLT]) | ((first | apply execG_split | apply execC_split | apply onPick_split) <;> intro h <;> try simp only [h]))
          cases hB : dealB o x with
          | true => exact outR_yes (by rw [hO, if_pos ⟨hv, hB⟩]) (hy hB)
          | false => exact outR_no (by rw [hO, if_neg (fun h => by rw [hB] at h; cases h.2)])
        · have hvd : decide (v = 0) = false := decide_eq_false hv
          repeat' (first | (simp only [hi0, Int.toNat_natCast, hgn, hgs, h3, onC_true, setN_setN, doff_q3, dget_q3, dset_q3, doff_q2, dget_q2, dset_q2, app_int, dl_len, hvd, ↓wA, ↓wC, wB, frzBE, frzBS, reduceEqDiff, reduceAdd, reduceSub, reduceIte, reduceCtorEq, Nat.reduceBEq, reduceLT]) | ((first | apply execG_split | apply execC_split | apply onPick_split) <;> intro h <;> try simp only [h]))
          all_goals exact outR_no (by rw [hO, if_neg (fun h => hv h.1)])
      | false =>
        have h6' := of_decide_eq_false h6
        have hO : caseO o i x k v = none := by unfold caseO; rw [if_neg h3', if_neg h5', if_neg h6']
        refine FnM_ofg (ps := [[1, 0]]) (fn := f175) (by exact func175) c175 r175 (n := 65) (by rfl) (rv := [.tmp 6]) (by rfl) (by decide) (by simp) ?_
        unfold m175
        try simp only [wQ]
        simp only [ghAll, ghAt]
        simp only [Off.o, offP, stD]
        repeat' (first | (simp only [onC_true, ↓wA, ↓wC, wB, frzBE, frzBS, reduceEqDiff, reduceAdd, reduceSub, reduceIte, reduceCtorEq, Nat.reduceBEq, reduceLT]) | ((first | apply execG_split | apply execC_split | apply onPick_split) <;> intro h <;> try simp only [h]))
        refine exec_gh _ (unlink 0 none [1] (es := 4) (xs := dl Cs.o o.cs) rfl rfl) fun v1 => ?_
        simp only [obSet, ↓wA, ↓wC, wB, frzBE, frzBS, reduceEqDiff, reduceAdd, reduceSub, reduceIte, reduceCtorEq, Nat.reduceBEq, reduceLT]
        repeat' (first | (simp only [hi0, Int.toNat_natCast, hgn, hgs, h3, onC_true, setN_setN, doff_q3, dget_q3, dset_q3, doff_q2, dget_q2, dset_q2, app_int, dl_len, h5, h6, ↓wA, ↓wC, wB, frzBE, frzBS, reduceEqDiff, reduceAdd, reduceSub, reduceIte, reduceCtorEq, Nat.reduceBEq, reduceLT]) | (with_reducible refine onI_bare ?_ ?_; focus (simp only [InR]; omega)) | ((first | apply execG_split | apply execC_split | apply onPick_split) <;> intro h <;> try simp only [h]))
        all_goals exact outR_no hO
end Go.Pe.Tryz
set_option maxRecDepth 100000
set_option maxHeartbeats 4000000
set_option linter.all false
namespace Go.Pe.Tryz
open Nat (reduceEqDiff reduceAdd reduceSub reduceLT)
open Go.Proofs.Tryz
theorem setN_ofL : ∀ (xs : List D) (i : Nat) (y : D), (ofL xs).setN i y = ofL (xs.set i y)
  | [], i, y => by cases i <;> rfl
  | x :: xs, 0, y => rfl
  | x :: xs, i + 1, y => by
    have := setN_ofL xs i y
    simp only [ofL, D.setN, List.set_cons_succ, this]
theorem isStB_st {xs : D} : (D.st xs).isStB = true := rfl
theorem enter_fn (o : Off) (id a v : Int) (ho : offOK o = true) (hv0 : 0 ≤ v) (hv1 : v ≤ 20000) : FnM prog 110 true o.o [stD 2 id a v] (OutR (mkO o 2 id a v)) := by
  have hp := off_parts ho
  have ho0 := off_ok0 ho
  have hA := caseAt_fn o id ho0
  have hM : mkO o 2 id a v = if 0 ≤ findC o.cs id then none else some { o with cs := enterC ⟨id, a, o.day + v, []⟩ o.cs } := if_pos rfl
  have h2 : decide ((2 : Int) = 2) = true := rfl
  cases hf : decide (0 ≤ findC o.cs id) with
  | true =>
    have hf' := of_decide_eq_true hf
    rw [if_pos hf'] at hM
    refine FnM_of' (fn := f110) (by exact func110) c110 r110 (n := 109) (by rfl) (rv := [.tmp 4]) (by rfl) (by decide) (by simp) ?_
    unfold m110
    try simp only [wQ]
    simp only [Off.o, offP, stD]
    repeat' (first | (simp only [onC_true, isStB_st, hf, ↓wA, ↓wC, wB, frzBE, frzBS, reduceEqDiff, reduceAdd, reduceSub, reduceIte, reduceCtorEq, Nat.reduceBEq, reduceLT]) | (refine callP_det hA (congrArg (fun d : D => some [d, .int .i64 id]) (Off.o_unown o)) rfl ?_) | ((first | apply execG_split | apply execC_split | apply onPick_split) <;> intro h <;> try simp only [h]))
    all_goals exact outR_no hM
  | false =>
    have hf' := of_decide_eq_false hf
    rw [if_neg hf'] at hM
    refine FnM_ofg (ps := [[1, 1, 0, 0, 1, 0, 1, 1, 1, 1, 0], [1, 1, 0, 0, 1, 0, 1, 1, 1, 1, 0], [1, 1, 0, 0, 1, 0, 1, 1, 1, 1, 0], [1, 1, 0, 0, 1, 0, 1, 0]]) (fn := f110) (by exact func110) c110 r110 (n := 109) (by rfl) (rv := [.tmp 4]) (by rfl) (by decide) (by simp) ?_
    unfold m110
    try simp only [wQ]
    simp only [ghAll, ghAt]
    simp only [Off.o, offP, stD]
    repeat' (first | (simp only [onC_true, isStB_st, hf, ↓wA, ↓wC, wB, frzBE, frzBS, reduceEqDiff, reduceAdd, reduceSub, reduceIte, reduceCtorEq, Nat.reduceBEq, reduceLT]) | (refine callP_det hA (congrArg (fun d : D => some [d, .int .i64 id]) (Off.o_unown o)) rfl ?_) | ((first | apply execG_split | apply execC_split | apply onPick_split) <;> intro h <;> try simp only [h]))
    refine exec_gh _ (unlink 0 none [1] (es := 4) (xs := dl Cs.o o.cs) rfl rfl) fun v1 => ?_
    simp only [obSet, ↓wA, ↓wC, wB, frzBE, frzBS, reduceEqDiff, reduceAdd, reduceSub, reduceIte, reduceCtorEq, Nat.reduceBEq, reduceLT]
    repeat' (first | (simp only [onC_true, ↓wA, ↓wC, wB, frzBE, frzBS, reduceEqDiff, reduceAdd, reduceSub, reduceIte, reduceCtorEq, Nat.reduceBEq, reduceLT]) | ((first | apply execG_split | apply execC_split | apply onPick_split) <;> intro h <;> try simp only [h]))
    refine exec_loop (fun j : Nat => ⟨[(0, .ptr 0 0 []), (3, .ptr 1 0 []), (6, .d (.int .i64 j))], [.box (offP o (.lnk 3 v1) (.sl true 1 (dl D.str o.led))), .box (stD 2 id a v), .val (.sl true 4 (dl Cs.o o.cs)), .tag 2 v1]⟩) (fun j => j ≤ o.cs.length ∧ ∀ m x, m < j → o.cs[m]? = some x → x.i < id) (fun j => o.cs.length - j) 0 (weak_of _ rfl ⟨⟨rfl, rfl⟩, ⟨rfl, rfl⟩, ⟨rfl, rfl⟩, trivial⟩) ⟨by omega, fun m x hm => by omega⟩ ?_
    rintro j ⟨hj1, hj2⟩
    simp only [offP, stD]
    have hcm : ∀ x : Cs, Cs.o x = x.p (.sl true 1 (dl iD x.h)) := fun _ => rfl
    have hj0 : (0 : Int) ≤ (j : Int) := by omega
    by_cases hlt : j < o.cs.length
    · obtain ⟨x, hr⟩ := get_lt hlt
      have hd : decide ((j : Int) < (o.cs.length : Int)) = true := decide_eq_true (by omega)
      cases hx : decide (x.i < id) with
      | true =>
        repeat' (first | (simp only [onC_true, dl_len, dl_nth, hd, hx, hr, hj0, hcm, Int.toNat_natCast, Option.map_some, doff_q0, dget_q0, ↓wA, ↓wC, wB, frzBE, frzBS, reduceEqDiff, reduceAdd, reduceSub, reduceIte, reduceCtorEq, Nat.reduceBEq, reduceLT]) | (with_reducible refine onI_bare ?_ ?_; focus (simp only [InR]; omega)) | ((first | apply execG_split | apply execC_split | apply onPick_split) <;> intro h <;> try simp only [h]))
        refine ⟨j + 1, (weak_of _ rfl ⟨⟨rfl, rfl⟩, ⟨rfl, rfl⟩, ⟨rfl, rfl⟩, trivial⟩), ⟨by omega, fun m y hm hy => ?_⟩, by omega⟩
        by_cases e : m = j
        · subst e
          rw [hr] at hy
          injection hy with hy
          rw [← hy]; exact of_decide_eq_true hx
        · exact hj2 m y (by omega) hy
      | false =>
        have hpl : placeC id o.cs = j := placeC_eq o.cs j hj1 hj2 (fun y hy => by rw [hr] at hy; injection hy with hy; rw [← hy]; exact of_decide_eq_false hx)
        repeat' (first | (simp only [onC_true, dl_len, dl_nth, hd, hx, hr, hj0, hcm, Int.toNat_natCast, Option.map_some, doff_q0, dget_q0, ↓wA, ↓wC, wB, frzBE, frzBS, reduceEqDiff, reduceAdd, reduceSub, reduceIte, reduceCtorEq, Nat.reduceBEq, reduceLT]) | (refine onJ_q ?_) | (with_reducible refine onI_bare ?_ ?_; focus (simp only [InR]; omega)) | ((first | apply execG_split | apply execC_split | apply onPick_split) <;> intro h <;> try simp only [h]))
        have hpe : enterC ⟨id, a, o.day + v, []⟩ o.cs = o.cs.take j ++ ⟨id, a, o.day + v, []⟩ :: o.cs.drop j := by unfold enterC; rw [hpl]
        refine call_gh _ (unlink 5 (some 0) [3] (es := 1) (xs := .nil) rfl rfl) fun v2 => ?_
        simp only [obSet, D.nth, Option.getD_some, dset, D.setN, ↓wA, ↓wC, wB, frzBE, frzBS, reduceEqDiff, reduceAdd, reduceSub, reduceIte, reduceCtorEq, Nat.reduceBEq, reduceLT]
        refine call_frz 5 ?_
        simp only [frz1, frzE, frzS, D.unown, ↓wA, ↓wC, wB, frzBE, frzBS, reduceEqDiff, reduceAdd, reduceSub, reduceIte, reduceCtorEq, Nat.reduceBEq, reduceLT]
        have hI := insertC_fn (o.cs.map Cs.o) (Cs.p ⟨id, a, o.day + v, []⟩ (.lnk 7 v2)) (fun d hd => by obtain ⟨y, _, rfl⟩ := List.mem_map.1 hd; rfl) rfl j (by simpa using hj1) (by simp; omega)
        refine callM_rel (bx := false) (r := 2) hI rfl rfl rfl ?_
        rintro _ _ ⟨⟨u, rfl⟩, rfl⟩
        have hnth : (ofL ((o.cs.map Cs.o).take j ++ Cs.p ⟨id, a, o.day + v, []⟩ (.lnk 7 v2) :: (o.cs.map Cs.o).drop j)).nth j = some (Cs.p ⟨id, a, o.day + v, []⟩ (.lnk 7 v2)) := by
          rw [nth_ofL, List.getElem?_append_right (by simp; omega)]
          simp [Nat.min_eq_left hj1]
        have hset : (ofL ((o.cs.map Cs.o).take j ++ Cs.p ⟨id, a, o.day + v, []⟩ (.lnk 7 v2) :: (o.cs.map Cs.o).drop j)).setN j (Cs.p ⟨id, a, o.day + v, []⟩ (.sl true 1 .nil)) = dl Cs.o (enterC ⟨id, a, o.day + v, []⟩ o.cs) := by
          rw [setN_ofL, List.set_append_right _ _ (by simp; omega), hpe]
          simp [Nat.min_eq_left hj1, dl]
          rfl
        generalize ofL ((o.cs.map Cs.o).take j ++ Cs.p ⟨id, a, o.day + v, []⟩ (.lnk 7 v2) :: (o.cs.map Cs.o).drop j) = NL at hnth hset
        repeat' (first | (simp only [onC_true, ↓wA, ↓wC, wB, frzBE, frzBS, reduceEqDiff, reduceAdd, reduceSub, reduceIte, reduceCtorEq, Nat.reduceBEq, reduceLT]) | ((first | apply execG_split | apply execC_split | apply onPick_split) <;> intro h <;> try simp only [h]))
        refine exec_gh _ (unlink 0 none [1] (es := 4) (xs := NL) rfl rfl) fun v3 => ?_
        simp only [obSet, ↓wA, ↓wC, wB, frzBE, frzBS, reduceEqDiff, reduceAdd, reduceSub, reduceIte, reduceCtorEq, Nat.reduceBEq, reduceLT]
        refine exec_gh1 (relink 9 7 6 (some j) [3] rfl (by simp only [obPart, hnth, Option.bind_some, dget_q3]) rfl rfl (by decide) rfl) ?_
        simp only [obSet, hnth, Option.getD_some, dset_q3, hset, ↓wA, ↓wC, wB, frzBE, frzBS, reduceEqDiff, reduceAdd, reduceSub, reduceIte, reduceCtorEq, Nat.reduceBEq, reduceLT]
        refine exec_gh1 (relink 0 10 9 none [1] rfl rfl rfl rfl (by decide) rfl) ?_
        simp only [obSet, ↓wA, ↓wC, wB, frzBE, frzBS, reduceEqDiff, reduceAdd, reduceSub, reduceIte, reduceCtorEq, Nat.reduceBEq, reduceLT]
        repeat' (first | (simp only [onC_true, ↓wA, ↓wC, wB, frzBE, frzBS, reduceEqDiff, reduceAdd, reduceSub, reduceIte, reduceCtorEq, Nat.reduceBEq, reduceLT]) | ((first | apply execG_split | apply execC_split | apply onPick_split) <;> intro h <;> try simp only [h]))
        all_goals exact outR_yes hM rfl
    · have e : j = o.cs.length := by omega
      have hd : decide ((j : Int) < (o.cs.length : Int)) = false := decide_eq_false (by omega)
      have hpl : placeC id o.cs = j := placeC_eq o.cs j hj1 hj2 (fun y hy => by have := lt_of_get hy; omega)
      repeat' (first | (simp only [onC_true, dl_len, dl_nth, hd, hj0, hcm, Int.toNat_natCast, Option.map_some, doff_q0, dget_q0, ↓wA, ↓wC, wB, frzBE, frzBS, reduceEqDiff, reduceAdd, reduceSub, reduceIte, reduceCtorEq, Nat.reduceBEq, reduceLT]) | (refine onJ_q ?_) | (with_reducible refine onI_bare ?_ ?_; focus (simp only [InR]; omega)) | ((first | apply execG_split | apply execC_split | apply onPick_split) <;> intro h <;> try simp only [h]))
      have hpe : enterC ⟨id, a, o.day + v, []⟩ o.cs = o.cs.take j ++ ⟨id, a, o.day + v, []⟩ :: o.cs.drop j := by unfold enterC; rw [hpl]
      refine call_gh _ (unlink 5 (some 0) [3] (es := 1) (xs := .nil) rfl rfl) fun v2 => ?_
      simp only [obSet, D.nth, Option.getD_some, dset, D.setN, ↓wA, ↓wC, wB, frzBE, frzBS, reduceEqDiff, reduceAdd, reduceSub, reduceIte, reduceCtorEq, Nat.reduceBEq, reduceLT]
      refine call_frz 5 ?_
      simp only [frz1, frzE, frzS, D.unown, ↓wA, ↓wC, wB, frzBE, frzBS, reduceEqDiff, reduceAdd, reduceSub, reduceIte, reduceCtorEq, Nat.reduceBEq, reduceLT]
      have hI := insertC_fn (o.cs.map Cs.o) (Cs.p ⟨id, a, o.day + v, []⟩ (.lnk 7 v2)) (fun d hd => by obtain ⟨y, _, rfl⟩ := List.mem_map.1 hd; rfl) rfl j (by simpa using hj1) (by simp; omega)
      refine callM_rel (bx := false) (r := 2) hI rfl rfl rfl ?_
      rintro _ _ ⟨⟨u, rfl⟩, rfl⟩
      have hnth : (ofL ((o.cs.map Cs.o).take j ++ Cs.p ⟨id, a, o.day + v, []⟩ (.lnk 7 v2) :: (o.cs.map Cs.o).drop j)).nth j = some (Cs.p ⟨id, a, o.day + v, []⟩ (.lnk 7 v2)) := by
        rw [nth_ofL, List.getElem?_append_right (by simp; omega)]
        simp [Nat.min_eq_left hj1]
      have hset : (ofL ((o.cs.map Cs.o).take j ++ Cs.p ⟨id, a, o.day + v, []⟩ (.lnk 7 v2) :: (o.cs.map Cs.o).drop j)).setN j (Cs.p ⟨id, a, o.day + v, []⟩ (.sl true 1 .nil)) = dl Cs.o (enterC ⟨id, a, o.day + v, []⟩ o.cs) := by
        rw [setN_ofL, List.set_append_right _ _ (by simp; omega), hpe]
        simp [Nat.min_eq_left hj1, dl]
        rfl
      generalize ofL ((o.cs.map Cs.o).take j ++ Cs.p ⟨id, a, o.day + v, []⟩ (.lnk 7 v2) :: (o.cs.map Cs.o).drop j) = NL at hnth hset
      repeat' (first | (simp only [onC_true, ↓wA, ↓wC, wB, frzBE, frzBS, reduceEqDiff, reduceAdd, reduceSub, reduceIte, reduceCtorEq, Nat.reduceBEq, reduceLT]) | ((first | apply execG_split | apply execC_split | apply onPick_split) <;> intro h <;> try simp only [h]))
      refine exec_gh _ (unlink 0 none [1] (es := 4) (xs := NL) rfl rfl) fun v3 => ?_
      simp only [obSet, ↓wA, ↓wC, wB, frzBE, frzBS, reduceEqDiff, reduceAdd, reduceSub, reduceIte, reduceCtorEq, Nat.reduceBEq, reduceLT]
      refine exec_gh1 (relink 9 7 6 (some j) [3] rfl (by simp only [obPart, hnth, Option.bind_some, dget_q3]) rfl rfl (by decide) rfl) ?_
      simp only [obSet, hnth, Option.getD_some, dset_q3, hset, ↓wA, ↓wC, wB, frzBE, frzBS, reduceEqDiff, reduceAdd, reduceSub, reduceIte, reduceCtorEq, Nat.reduceBEq, reduceLT]
      refine exec_gh1 (relink 0 10 9 none [1] rfl rfl rfl rfl (by decide) rfl) ?_
      simp only [obSet, ↓wA, ↓wC, wB, frzBE, frzBS, reduceEqDiff, reduceAdd, reduceSub, reduceIte, reduceCtorEq, Nat.reduceBEq, reduceLT]
      repeat' (first | (simp only [onC_true, ↓wA, ↓wC, wB, frzBE, frzBS, reduceEqDiff, reduceAdd, reduceSub, reduceIte, reduceCtorEq, Nat.reduceBEq, reduceLT]) | ((first | apply execG_split | apply execC_split | apply onPick_split) <;> intro h <;> try simp only [h]))
      all_goals exact outR_yes hM rfl
theorem stepOffice_fn (o : Off) (k id a v : Int) (ho : offOK o = true) (hv0 : 0 ≤ v) (hv1 : v ≤ 20000) : FnM prog 110 true o.o [stD k id a v] (OutR (mkO o k id a v)) := by
  have hp := off_parts ho
  have ho0 := off_ok0 ho
  have hA := caseAt_fn o id ho0
  cases k2 : decide (k = 2) with
  | true =>
    have := of_decide_eq_true k2
    subst this
    exact enter_fn o id a v ho hv0 hv1
  | false =>
    have k2' := of_decide_eq_false k2
    cases ha : decide (a = 0) with
    | false =>
      have ha' := of_decide_eq_false ha
      have hM : mkO o k id a v = none := by unfold mkO; rw [if_neg k2', if_pos ha']
      refine FnM_of' (fn := f110) (by exact func110) c110 r110 (n := 109) (by rfl) (rv := [.tmp 4]) (by rfl) (by decide) (by simp) ?_
      unfold m110
      try simp only [wQ]
      simp only [Off.o, offP, stD]
      repeat' (first | (simp only [onC_true, isStB_st, k2, ha, ↓wA, ↓wC, wB, frzBE, frzBS, reduceEqDiff, reduceAdd, reduceSub, reduceIte, reduceCtorEq, Nat.reduceBEq, reduceLT]) | (refine callP_det hA (congrArg (fun d : D => some [d, .int .i64 id]) (Off.o_unown o)) rfl ?_) | ((first | apply execG_split | apply execC_split | apply onPick_split) <;> intro h <;> try simp only [h]))
      all_goals exact outR_no hM
    | true =>
      have ha' := of_decide_eq_true ha
      have hM0 : mkO o k id a v = mkO o k id a v := rfl
      conv at hM0 => rhs; unfold mkO
      rw [if_neg k2', if_neg (show ¬ a ≠ 0 from fun h => h ha')] at hM0
      cases k1 : decide (k = 1) with
      | true =>
        have k1' := of_decide_eq_true k1
        rw [if_pos k1'] at hM0
        refine FnM_of' (fn := f110) (by exact func110) c110 r110 (n := 109) (by rfl) (rv := [.tmp 4]) (by rfl) (by decide) (by simp) ?_
        unfold m110
        try simp only [wQ]
        simp only [Off.o, offP, stD]
        cases hi : decide (id = 0) with
        | true =>
          have hi' := of_decide_eq_true hi
          repeat' (first | (simp only [onC_true, isStB_st, k2, ha, k1, hi, ↓wA, ↓wC, wB, frzBE, frzBS, reduceEqDiff, reduceAdd, reduceSub, reduceIte, reduceCtorEq, Nat.reduceBEq, reduceLT]) | (refine onJ_q ?_) | (refine callP_det hA (congrArg (fun d : D => some [d, .int .i64 id]) (Off.o_unown o)) rfl ?_) | (with_reducible refine onI_bare ?_ ?_; focus (simp only [InR]; omega)) | ((first | apply execG_split | apply execC_split | apply onPick_split) <;> intro h <;> try simp only [h]))
          by_cases hv : 1 ≤ v
          · rw [decide_eq_true hv]
            exact outR_yes (o' := { o with day := o.day + v }) (by rw [hM0, if_pos ⟨hi', hv⟩]) rfl
          · rw [decide_eq_false hv]
            exact outR_no (by rw [hM0, if_neg (fun h => hv h.2)])
        | false =>
          have hi' := of_decide_eq_false hi
          repeat' (first | (simp only [onC_true, isStB_st, k2, ha, k1, hi, ↓wA, ↓wC, wB, frzBE, frzBS, reduceEqDiff, reduceAdd, reduceSub, reduceIte, reduceCtorEq, Nat.reduceBEq, reduceLT]) | (refine onJ_q ?_) | (refine callP_det hA (congrArg (fun d : D => some [d, .int .i64 id]) (Off.o_unown o)) rfl ?_) | (with_reducible refine onI_bare ?_ ?_; focus (simp only [InR]; omega)) | ((first | apply execG_split | apply execC_split | apply onPick_split) <;> intro h <;> try simp only [h]))
          all_goals exact outR_no (by rw [hM0, if_neg (fun h => hi' h.1)])
      | false =>
        have k1' := of_decide_eq_false k1
        rw [if_neg k1'] at hM0
        cases k4 : decide (k = 4) with
        | true =>
          have k4' := of_decide_eq_true k4
          rw [if_pos k4'] at hM0
          have hnd : ∀ x ∈ o.cs, x.h.Nodup := fun x hx => risen_nodup (risenOf (case_parts (hp.2.2.2.2.2.2.2.2.2 x hx)).2.2.2.2.2.2.2.2)
          refine FnM_of' (fn := f110) (by exact func110) c110 r110 (n := 109) (by rfl) (rv := [.tmp 4]) (by rfl) (by decide) (by simp) ?_
          unfold m110
          try simp only [wQ]
          simp only [Off.o, offP, stD]
          cases hi : decide (id = 0) with
          | true =>
            have hi' := of_decide_eq_true hi
            repeat' (first | (simp only [onC_true, isStB_st, k2, ha, k1, k4, hi, ↓wA, ↓wC, wB, frzBE, frzBS, reduceEqDiff, reduceAdd, reduceSub, reduceIte, reduceCtorEq, Nat.reduceBEq, reduceLT]) | (refine callP_det hA (congrArg (fun d : D => some [d, .int .i64 id]) (Off.o_unown o)) rfl ?_) | ((first | apply execG_split | apply execC_split | apply onPick_split) <;> intro h <;> try simp only [h]))
            refine callM_det (bx := true) (r := 0) (release_fn o v ho0 hnd) rfl rfl rfl ?_
            repeat' (first | (simp only [onC_true, hi, ↓wA, ↓wC, wB, frzBE, frzBS, reduceEqDiff, reduceAdd, reduceSub, reduceIte, reduceCtorEq, Nat.reduceBEq, reduceLT]) | ((first | apply execG_split | apply execC_split | apply onPick_split) <;> intro h <;> try simp only [h]))
            cases hh : hasC v o.cs with
            | true => exact outR_yes (o' := { o with cs := o.cs.map (relC v) }) (by rw [hM0, if_pos ⟨hi', hh⟩]) rfl
            | false => exact outR_no (by rw [hM0, if_neg (fun h => by rw [hh] at h; cases h.2)])
          | false =>
            have hi' := of_decide_eq_false hi
            repeat' (first | (simp only [onC_true, isStB_st, k2, ha, k1, k4, hi, ↓wA, ↓wC, wB, frzBE, frzBS, reduceEqDiff, reduceAdd, reduceSub, reduceIte, reduceCtorEq, Nat.reduceBEq, reduceLT]) | (refine callP_det hA (congrArg (fun d : D => some [d, .int .i64 id]) (Off.o_unown o)) rfl ?_) | ((first | apply execG_split | apply execC_split | apply onPick_split) <;> intro h <;> try simp only [h]))
            all_goals exact outR_no (by rw [hM0, if_neg (fun h => hi' h.1)])
        | false =>
          have k4' := of_decide_eq_false k4
          rw [if_neg k4'] at hM0
          refine FnM_of' (fn := f110) (by exact func110) c110 r110 (n := 109) (by rfl) (rv := [.tmp 4]) (by rfl) (by decide) (by simp) ?_
          unfold m110
          try simp only [wQ]
          simp only [Off.o, offP, stD]
          cases hf : decide (0 ≤ findC o.cs id) with
          | false =>
            have hf' := of_decide_eq_false hf
            rw [if_neg hf'] at hM0
            repeat' (first | (simp only [onC_true, isStB_st, k2, ha, k1, k4, hf, ↓wA, ↓wC, wB, frzBE, frzBS, reduceEqDiff, reduceAdd, reduceSub, reduceIte, reduceCtorEq, Nat.reduceBEq, reduceLT]) | (refine callP_det hA (congrArg (fun d : D => some [d, .int .i64 id]) (Off.o_unown o)) rfl ?_) | ((first | apply execG_split | apply execC_split | apply onPick_split) <;> intro h <;> try simp only [h]))
            all_goals exact outR_no hM0
          | true =>
            have hf' := of_decide_eq_true hf
            rw [if_pos hf'] at hM0
            rcases find_casesC o.cs id with ⟨_, hn⟩ | ⟨i, x, hi, hr, _⟩
            · exact absurd hf' (of_decide_eq_false hn)
            · rw [hi, Int.toNat_natCast, hr] at hM0
              rw [hi] at hA hf
              have hS := stepCase_fn o i x k id a v ho hr hv0 hv1
              repeat' (first | (simp only [onC_true, isStB_st, k2, ha, k1, k4, hf, ↓wA, ↓wC, wB, frzBE, frzBS, reduceEqDiff, reduceAdd, reduceSub, reduceIte, reduceCtorEq, Nat.reduceBEq, reduceLT]) | (refine callP_det hA (congrArg (fun d : D => some [d, .int .i64 id]) (Off.o_unown o)) rfl ?_) | ((first | apply execG_split | apply execC_split | apply onPick_split) <;> intro h <;> try simp only [h]))
              refine callM_rel (bx := true) (r := 0) hS rfl rfl rfl ?_
              rintro x' _ ⟨rfl, hx'⟩
              repeat' (first | (simp only [onC_true, hf, ↓wA, ↓wC, wB, frzBE, frzBS, reduceEqDiff, reduceAdd, reduceSub, reduceIte, reduceCtorEq, Nat.reduceBEq, reduceLT]) | ((first | apply execG_split | apply execC_split | apply onPick_split) <;> intro h <;> try simp only [h]))
              have hM1 : mkO o k id a v = caseO o i x k v := hM0
              all_goals exact ⟨by rw [hM1], fun o' h => hx' o' (by rw [← hM1]; exact h)⟩
end Go.Pe.Tryz
set_option maxRecDepth 100000
set_option maxHeartbeats 4000000
set_option linter.all false
namespace Go.Pe.Tryz
open Nat (reduceEqDiff reduceAdd reduceSub reduceLT)
open Go.Proofs.Tryz
def offZ : Off := ⟨0, [], 0, 0, []⟩
theorem putI_len (v : Int) (h : List Int) : (putI v h).length = h.length + 1 := by simp [putI]; omega
theorem set_ok0 {xs : List Cs} {i : Nat} {y : Cs} (h : casesOk xs) (hy : y.ok0) : casesOk (xs.set i y) := ⟨by simpa using h.1, fun z hz => by
  rcases List.mem_or_eq_of_mem_set hz with hz | hz
  · exact h.2 z hz
  · rw [hz]; exact hy⟩
theorem mkO_ok0 {o o' : Off} {k id a v : Int} (ho : offOK o = true) (hx : ∀ (i : Nat) (x : Cs), o.cs[i]? = some x → caseOK x = true) (h : mkO o k id a v = some o') : o'.ok0 := by
  have hp := off_parts ho
  have h0 := off_ok0 ho
  unfold mkO at h
  by_cases k2 : k = 2
  · rw [if_pos k2] at h
    split at h
    · cases h
    · injection h with h
      subst h
      refine ⟨⟨?_, fun x hx => ?_⟩, h0.2⟩
      · simp [enterC]; omega
      · rcases List.mem_append.1 hx with hx | hx
        · exact h0.1.2 x (List.mem_of_mem_take hx)
        · rcases List.mem_cons.1 hx with rfl | hx
          · simp [Cs.ok0]
          · exact h0.1.2 x (List.mem_of_mem_drop hx)
  · rw [if_neg k2] at h
    split at h
    · cases h
    split at h
    · split at h
      · injection h with h; subst h; exact h0
      · cases h
    split at h
    · split at h
      · injection h with h
        subst h
        refine ⟨⟨by simpa using h0.1.1, fun x hx => ?_⟩, h0.2⟩
        obtain ⟨y, hy, rfl⟩ := List.mem_map.1 hx
        have h1 := h0.1.2 y hy
        have h2 := List.length_filter_le (fun n => !decide (n = v)) y.h
        exact Nat.le_trans h2 h1
      · cases h
    split at h
    · split at h
      · rename_i x hr
        have hxc := case_parts (hx _ x hr)
        split at h
        · split at h
          · cases h
          · injection h with h
            subst h
            refine ⟨set_ok0 h0.1 ?_, h0.2⟩
            show (putI v x.h).length ≤ 1048576
            rw [putI_len]; omega
        · split at h
          · split at h
            · injection h with h
              subst h
              refine ⟨set_ok0 h0.1 ?_, h0.2⟩
              show x.h.length ≤ 1048576
              omega
            · cases h
          · split at h
            · split at h
              · injection h with h
                subst h
                have he : ∀ i, casesOk (o.cs.eraseIdx i) := fun i => ⟨by have := List.length_eraseIdx_le o.cs i; omega, fun y hy => h0.1.2 y (List.mem_of_mem_eraseIdx hy)⟩
                unfold outO
                split
                · exact ⟨he _, h0.2⟩
                · split
                  · exact ⟨he _, h0.2⟩
                  · refine ⟨he _, by simp; omega, fun s hs => ?_⟩
                    rcases List.mem_append.1 hs with hs | hs
                    · exact h0.2.2 s hs
                    · rw [List.mem_singleton.1 hs]
                      have h1 := itoa_le x.i (by simp only [InR]; omega)
                      have h2 := itoa_le o.day (by simp only [InR]; omega)
                      simp [entryT]; omega
              · cases h
            · cases h
      · cases h
    · cases h
def stepRes : Option Off → List D
  | some o' => [o'.o, .bool true]
  | none => [offZ.o, .bool false]
theorem implStep_fn (o : Off) (k id a v : Int) (ho : o.ok0) : Fn prog 37 [o.s, stD k id a v] (fun rs => rs = stepRes (stepR o k id a v)) := by
  have hV := isOffice_fn o ho
  have hW := within_fn v 0 20000
  cases hv : offOK o with
  | false =>
    have hR : stepR o k id a v = none := by unfold stepR; rw [hv]; rfl
    rw [hR]
    rw [hv] at hV
    refine Fn_of' (fn := f37) (by exact func37) c37 r37 (n := 29) (by rfl) (rv := [.cell 4 35, .tmp 5]) (by rfl) (by simp) ?_
    unfold m37
    try simp only [wQ]
    simp only [stD]
    repeat' (first | (simp only [Off.s_noOwn, Off.s_isV, ↓rd_off, onC_true, ↓wA, ↓wC, wB, frzBE, frzBS, reduceEqDiff, reduceAdd, reduceSub, reduceIte, reduceCtorEq, Nat.reduceBEq, reduceLT, sz35]) | (refine call_det hV (by simp [argsD, argD, Off.s_unown]) rfl ?_) | ((first | apply execG_split | apply execC_split | apply onPick_split) <;> intro h <;> try simp only [h]))
    all_goals rfl
  | true =>
    rw [hv] at hV
    cases hw : within v 0 20000 with
    | false =>
      have hR : stepR o k id a v = none := by unfold stepR; rw [hv, hw]; rfl
      rw [hR]
      rw [hw] at hW
      refine Fn_of' (fn := f37) (by exact func37) c37 r37 (n := 29) (by rfl) (rv := [.cell 4 35, .tmp 5]) (by rfl) (by simp) ?_
      unfold m37
      try simp only [wQ]
      simp only [stD]
      repeat' (first | (simp only [Off.s_noOwn, Off.s_isV, ↓rd_off, onC_true, ↓wA, ↓wC, wB, frzBE, frzBS, reduceEqDiff, reduceAdd, reduceSub, reduceIte, reduceCtorEq, Nat.reduceBEq, reduceLT, sz35]) | (refine call_det (hW) rfl rfl ?_) | (refine callP_det (hW) rfl rfl ?_) | (refine call_det hV (by simp [argsD, argD, Off.s_unown]) rfl ?_) | ((first | apply execG_split | apply execC_split | apply onPick_split) <;> intro h <;> try simp only [h]))
      all_goals rfl
    | true =>
      have hwi := within_iff.1 hw
      rw [hw] at hW
      have hR : stepR o k id a v = (mkO o k id a v).filter offOK := by unfold stepR; rw [hv, hw]; rfl
      have hC := copyOffice_fn o ho
      have hS := stepOffice_fn o k id a v hv hwi.1 hwi.2
      have hno : ∀ q : Off, q.o.noOwn = false := fun q => by simp [Off.o, offP, D.noOwn]
      have hst : ∀ q : Off, q.o.isStB = true := fun q => rfl
      refine Fn_of' (fn := f37) (by exact func37) c37 r37 (n := 29) (by rfl) (rv := [.cell 4 35, .tmp 5]) (by rfl) (by simp) ?_
      unfold m37
      try simp only [wQ]
      simp only [stD]
      repeat' (first | (simp only [Off.s_noOwn, Off.s_isV, Off.o_isV, Off.o_size, Off.s_size, hno, ↓rd_off, onC_true, ↓wA, ↓wC, wB, frzBE, frzBS, reduceEqDiff, reduceAdd, reduceSub, reduceIte, reduceCtorEq, Nat.reduceBEq, reduceLT, sz35]) | (refine call_det (hW) rfl rfl ?_) | (refine callP_det (hW) rfl rfl ?_) | (refine call_det hV (by simp [argsD, argD, Off.s_unown]) rfl ?_) | (refine call_det hC (by simp [argsD, argD, Off.s_unown]) rfl ?_) | ((first | apply execG_split | apply execC_split | apply onPick_split) <;> intro h <;> try simp only [h]))
      refine callM_rel (bx := true) (r := 4) hS rfl rfl rfl ?_
      rintro x' _ ⟨rfl, hx'⟩
      rw [hR]
      cases hM : mkO o k id a v with
      | none =>
        repeat' (first | (simp only [isStB_st, onC_true, Option.isSome_none, ↓wA, ↓wC, wB, frzBE, frzBS, reduceEqDiff, reduceAdd, reduceSub, reduceIte, reduceCtorEq, Nat.reduceBEq, reduceLT, sz35]) | ((first | apply execG_split | apply execC_split | apply onPick_split) <;> intro h <;> try simp only [h]))
        all_goals rfl
      | some o' =>
        obtain rfl := hx' o' hM
        have hV' := isOffice_fn o' (mkO_ok0 hv (fun i x hr => (off_parts hv).2.2.2.2.2.2.2.2.2 x (List.mem_of_getElem? hr)) hM)
        cases hv' : offOK o' with
        | true =>
          rw [hv'] at hV'
          have hr : stepRes (Option.filter offOK (some o')) = [o'.o, .bool true] := by simp [Option.filter, hv', stepRes]
          rw [hr]
          repeat' (first | (simp only [isStB_st, hst, onC_true, Option.isSome_some, Off.o_isV, Off.o_size, hno, ↓rd_off, ↓wA, ↓wC, wB, frzBE, frzBS, reduceEqDiff, reduceAdd, reduceSub, reduceIte, reduceCtorEq, Nat.reduceBEq, reduceLT, sz35]) | (refine call_det hV' (congrArg (fun d : D => some [d]) (Off.o_unown o')) rfl ?_) | ((first | apply execG_split | apply execC_split | apply onPick_split) <;> intro h <;> try simp only [h]))
          exact ⟨_, rfl, rfl, rfl, rfl, rfl⟩
        | false =>
          rw [hv'] at hV'
          have hr : stepRes (Option.filter offOK (some o')) = [offZ.o, .bool false] := by simp [Option.filter, hv', stepRes]
          rw [hr]
          repeat' (first | (simp only [isStB_st, hst, onC_true, Option.isSome_some, Off.o_isV, Off.o_size, hno, ↓rd_off, ↓wA, ↓wC, wB, frzBE, frzBS, reduceEqDiff, reduceAdd, reduceSub, reduceIte, reduceCtorEq, Nat.reduceBEq, reduceLT, sz35]) | (refine call_det hV' (congrArg (fun d : D => some [d]) (Off.o_unown o')) rfl ?_) | ((first | apply execG_split | apply execC_split | apply onPick_split) <;> intro h <;> try simp only [h]))
          all_goals rfl
end Go.Pe.Tryz
set_option maxRecDepth 100000
set_option maxHeartbeats 4000000
set_option linter.all false
namespace Go.Pe.Tryz
open Nat (reduceEqDiff reduceAdd reduceSub reduceLT)
open Go.Proofs.Tryz
structure Stp where
  k : Int
  i : Int
  a : Int
  v : Int
def Stp.d (s : Stp) : D := stD s.k s.i s.a s.v
theorem steps_noOwn : ∀ xs : List Stp, (dl Stp.d xs).noOwn = true
  | [] => rfl
  | x :: xs => by
    have := steps_noOwn xs
    simp only [dl, List.map_cons, ofL, D.noOwn, Stp.d, stD_noOwn, Bool.true_and] at this ⊢
    exact this
theorem steps_unown : ∀ xs : List Stp, (dl Stp.d xs).unown = dl Stp.d xs
  | [] => rfl
  | x :: xs => by
    have := steps_unown xs
    simp only [dl, List.map_cons, ofL, D.unown, Stp.d, stD_unown] at this ⊢
    rw [this]
def run1 (p : Off × Int) (s : Stp) : Off × Int := match stepR p.1 s.k s.i s.a s.v with
  | some q => (q, p.2 + 1)
  | none => p
def runN (o : Off) (ss : List Stp) (i : Nat) : Off × Int := (ss.take i).foldl run1 (o, 0)
def runR (o : Off) (ss : List Stp) : Option (Off × Int) := if (offOK o && decide (ss.length ≤ 40)) = true then some (runN o ss ss.length) else none
def runRes : Option (Off × Int) → List D
  | some p => [p.1.o, .int .i64 p.2, .bool true]
  | none => [offZ.o, .int .i64 0, .bool false]
theorem runN_succ {o : Off} {ss : List Stp} {i : Nat} {s : Stp} (h : ss[i]? = some s) : runN o ss (i + 1) = run1 (runN o ss i) s := by
  unfold runN; rw [take_get h, List.foldl_append]; rfl
theorem stepR_ok {o q : Off} {k id a v : Int} (h : stepR o k id a v = some q) : offOK q = true := by
  unfold stepR at h
  split at h
  · cases hm : mkO o k id a v with
    | none => rw [hm] at h; cases h
    | some o' =>
      rw [hm] at h
      simp only [Option.filter] at h
      split at h
      · rename_i hv; injection h with h; rw [← h]; exact hv
      · cases h
  · cases h
theorem runN_ok {o : Off} {ss : List Stp} (ho : offOK o = true) : ∀ i, i ≤ ss.length → offOK (runN o ss i).1 = true ∧ 0 ≤ (runN o ss i).2 ∧ (runN o ss i).2 ≤ i
  | 0, _ => ⟨ho, by simp [runN], by simp [runN]⟩
  | i + 1, h => by
    obtain ⟨s, hs⟩ := get_lt (show i < ss.length by omega)
    have ih := runN_ok (ss := ss) ho i (by omega)
    rw [runN_succ hs]
    unfold run1
    split
    · rename_i q hq
      exact ⟨stepR_ok hq, by show 0 ≤ (runN o ss i).2 + 1; omega, by show (runN o ss i).2 + 1 ≤ ((i + 1 : Nat) : Int); omega⟩
    · exact ⟨ih.1, ih.2.1, by have := ih.2.2; omega⟩
theorem implRun_fn (o : Off) (ss : List Stp) (ho : o.ok0) (hl : ss.length ≤ 1048576) : Fn prog 46 [o.s, .sl false 4 (dl Stp.d ss)] (fun rs => rs = runRes (runR o ss)) := by
  have hV := isOffice_fn o ho
  cases hv : offOK o with
  | false =>
    have hR : runR o ss = none := by unfold runR; rw [hv]; rfl
    rw [hR]
    rw [hv] at hV
    refine Fn_of' (fn := f46) (by exact func46) c46 r46 (n := 42) (by rfl) (rv := [.cell 4 35, .tmp 5, .tmp 6]) (by rfl) (by simp) ?_
    unfold m46
    try simp only [wQ]
    repeat' (first | (simp only [Off.s_noOwn, Off.s_isV, ↓rd_off, steps_noOwn, onC_true, ↓wA, ↓wC, wB, frzBE, frzBS, reduceEqDiff, reduceAdd, reduceSub, reduceIte, reduceCtorEq, Nat.reduceBEq, reduceLT, sz35]) | (refine call_det hV (by simp [argsD, argD, Off.s_unown]) rfl ?_) | ((first | apply execG_split | apply execC_split | apply onPick_split) <;> intro h <;> try simp only [h]))
    all_goals rfl
  | true =>
    rw [hv] at hV
    cases hn : decide ((40 : Int) < ss.length) with
    | true =>
      have hn' := of_decide_eq_true hn
      have hR : runR o ss = none := by unfold runR; rw [hv, decide_eq_false (show ¬ ss.length ≤ 40 by omega)]; rfl
      rw [hR]
      refine Fn_of' (fn := f46) (by exact func46) c46 r46 (n := 42) (by rfl) (rv := [.cell 4 35, .tmp 5, .tmp 6]) (by rfl) (by simp) ?_
      unfold m46
      try simp only [wQ]
      repeat' (first | (simp only [Off.s_noOwn, Off.s_isV, ↓rd_off, steps_noOwn, dl_len, hn, onC_true, ↓wA, ↓wC, wB, frzBE, frzBS, reduceEqDiff, reduceAdd, reduceSub, reduceIte, reduceCtorEq, Nat.reduceBEq, reduceLT, sz35]) | (refine call_det hV (by simp [argsD, argD, Off.s_unown]) rfl ?_) | ((first | apply execG_split | apply execC_split | apply onPick_split) <;> intro h <;> try simp only [h]))
      all_goals rfl
    | false =>
      have hn' := of_decide_eq_false hn
      have hR : runR o ss = some (runN o ss ss.length) := by unfold runR; rw [hv, decide_eq_true (show ss.length ≤ 40 by omega)]; rfl
      rw [hR]
      have hC := copyOffice_fn o ho
      have hno : ∀ q : Off, q.o.noOwn = false := fun q => by simp [Off.o, offP, D.noOwn]
      have hst : ∀ q : Off, q.o.isStB = true := fun q => rfl
      refine Fn_of' (fn := f46) (by exact func46) c46 r46 (n := 42) (by rfl) (rv := [.cell 4 35, .tmp 5, .tmp 6]) (by rfl) (by simp) ?_
      unfold m46
      try simp only [wQ]
      repeat' (first | (simp only [Off.s_noOwn, Off.s_isV, Off.o_isV, Off.o_size, Off.s_size, hno, hst, ↓rd_off, steps_noOwn, dl_len, hn, onC_true, ↓wA, ↓wC, wB, frzBE, frzBS, reduceEqDiff, reduceAdd, reduceSub, reduceIte, reduceCtorEq, Nat.reduceBEq, reduceLT, sz35]) | (refine call_det hV (by simp [argsD, argD, Off.s_unown]) rfl ?_) | (refine call_det hC (by simp [argsD, argD, Off.s_unown]) rfl ?_) | ((first | apply execG_split | apply execC_split | apply onPick_split) <;> intro h <;> try simp only [h]))
      refine exec_range ss.length (fun i : Nat => ⟨[(2, .ptr 0 0 []), (4, .ptr 1 0 []), (7, .d (.int .i64 (runN o ss i).2)), (23, .d (.sl false 4 (dl Stp.d ss))), (24, .d (.int .i64 ss.length)), (25, .d (.int .i64 i))], [.box (runN o ss i).1.o, .box (.st (.cons (.int .i64 0) (.cons (.sl true 4 .nil) (.cons (.int .i64 0) (.cons (.int .i64 0) (.cons (.sl true 1 .nil) .nil)))))), .dead]⟩) (fun _ => True) ?_ trivial ?_ ?_
      · exact (weak_of _ rfl ⟨⟨rfl, rfl⟩, ⟨rfl, rfl⟩, ⟨rfl, rfl⟩, ⟨rfl, rfl⟩, ⟨rfl, rfl⟩, ⟨rfl, rfl⟩, trivial⟩)
      · intro i hlt _ hd h0
        obtain ⟨s, hr⟩ := get_lt hlt
        have hk := runN_ok (ss := ss) hv i (by omega)
        have hS := implStep_fn (runN o ss i).1 s.k s.i s.a s.v (off_ok0 hk.1)
        have hN := runN_succ (o := o) hr
        generalize hqe : runN o ss i = qn at hk hS hN ⊢
        cases hq : stepR qn.1 s.k s.i s.a s.v with
        | none =>
          rw [hq] at hS
          have e : run1 qn s = qn := by unfold run1; rw [hq]
          rw [e] at hN
          repeat' (first | (simp only [dl_len, hd, h0, hr, dl_nth, Int.toNat_natCast, Option.map_some, Stp.d, rd_st4, stD_noOwn, stD_isV, stD_size, Off.o_isV, Off.o_size, hno, hst, stepRes, onC_true, ↓wA, ↓wC, wB, frzBE, frzBS, reduceEqDiff, reduceAdd, reduceSub, reduceIte, reduceCtorEq, Nat.reduceBEq, reduceLT, sz35]) | (refine call_det hS (congrArg (fun d : D => some [d, stD s.k s.i s.a s.v]) (Off.o_unown qn.1)) (by simp [stepRes, Off.o_own, D.allOwn]) ?_) | (refine onI_bare (by simp only [InR]; omega) ?_) | ((first | apply execG_split | apply execC_split | apply onPick_split) <;> intro h <;> try simp only [h]))
          refine ⟨i + 1, ?_, by omega, by omega⟩
          rw [hN]
          exact (weak_of _ rfl ⟨⟨rfl, rfl⟩, ⟨rfl, rfl⟩, ⟨rfl, rfl⟩, ⟨rfl, rfl⟩, ⟨rfl, rfl⟩, ⟨rfl, rfl⟩, trivial⟩)
        | some q =>
          rw [hq] at hS
          have e : run1 qn s = (q, qn.2 + 1) := by unfold run1; rw [hq]
          rw [e] at hN
          repeat' (first | (simp only [dl_len, hd, h0, hr, dl_nth, Int.toNat_natCast, Option.map_some, Stp.d, rd_st4, stD_noOwn, stD_isV, stD_size, Off.o_isV, Off.o_size, hno, hst, stepRes, onC_true, ↓wA, ↓wC, wB, frzBE, frzBS, reduceEqDiff, reduceAdd, reduceSub, reduceIte, reduceCtorEq, Nat.reduceBEq, reduceLT, sz35]) | (refine call_det hS (congrArg (fun d : D => some [d, stD s.k s.i s.a s.v]) (Off.o_unown qn.1)) (by simp [stepRes, Off.o_own, D.allOwn]) ?_) | (refine onI_bare (by simp only [InR]; omega) ?_) | ((first | apply execG_split | apply execC_split | apply onPick_split) <;> intro h <;> try simp only [h]))
          refine ⟨_, rfl, rfl, rfl, ?_⟩
          refine onI_bare (by simp only [InR]; omega) ?_
          refine onI_bare (by simp only [InR]; omega) ?_
          refine ⟨i + 1, ?_, by omega, by omega⟩
          rw [hN]
          exact (weak_of _ rfl ⟨⟨rfl, rfl⟩, ⟨rfl, rfl⟩, ⟨rfl, rfl⟩, ⟨rfl, rfl⟩, ⟨rfl, rfl⟩, ⟨rfl, rfl⟩, trivial⟩)
      · intro _ hd
        repeat' (first | (simp only [dl_len, hd, onC_true, Off.o_isV, Off.o_size, hno, ↓wA, ↓wC, wB, frzBE, frzBS, reduceEqDiff, reduceAdd, reduceSub, reduceIte, reduceCtorEq, Nat.reduceBEq, reduceLT, sz35]) | ((first | apply execG_split | apply execC_split | apply onPick_split) <;> intro h <;> try simp only [h]))
        exact onC_i (hst _) ⟨_, rfl, rfl, rfl, rfl, rfl⟩
end Go.Pe.Tryz
set_option maxRecDepth 100000
set_option maxHeartbeats 4000000
set_option linter.all false
namespace Go.Pe.Tryz
open Nat (reduceEqDiff reduceAdd reduceSub reduceLT)
open Go.Proofs.Tryz
def zO : D := .st (.cons (.int .i64 0) (.cons (.sl true 4 .nil) (.cons (.int .i64 0) (.cons (.int .i64 0) (.cons (.sl true 1 .nil) .nil)))))
def Off.w (o : Off) : D := offP o (.sl true 4 (dl Cs.s o.cs)) (.sl true 1 (dl D.str o.led))
def ownA (o : Off) (j : Nat) (l : List Ob) : St := ⟨[(1, .d (.ptr o.s)), (2, .ptr 1 0 []), (3, .ptr j 0 [])], .dead :: .box zO :: (l ++ [.box (offP o (.sl true 4 .nil) (.sl true 1 (dl D.str o.led)))])⟩
theorem onJ_i {F : (St → Prop) → Prop} {Q : St → Prop} (J : St → Prop) (h : F J) (h2 : ∀ s', J s' → ∃ s1, Weak s' s1 ∧ Q s1) : onJ F Q := ⟨J, h, h2⟩
theorem l1OwnI_fn (v : List Int) (hlen : v.length ≤ 1048576) : Fn prog 190 [.sl false 1 (dl iD v)] (fun rs => rs = [.sl true 1 (dl iD v)]) := by
  refine Fn_of' (fn := f190) (by exact func190) c190 r190 (n := 6) (by rfl) (rv := [.tmp 2]) (by rfl) (by simp) ?_
  unfold m190
  try simp only [wQ]
  simp only [dl_len, ↓wA, ↓wC, wB, frzBE, frzBS, reduceEqDiff, reduceAdd, reduceSub, reduceIte, reduceCtorEq, Nat.reduceBEq, reduceLT, sz35]
  refine onC_i ⟨by omega, by omega⟩ ?_
  simp only [↓wA, ↓wC, wB, frzBE, frzBS, reduceEqDiff, reduceAdd, reduceSub, reduceIte, reduceCtorEq, Nat.reduceBEq, reduceLT, sz35]
theorem l25Own_fn (o : Off) (ho : o.ok0) : Fn prog 121 [o.s] (fun rs => rs = [o.w]) := by
  have hlen := ho.1.1
  have hlen2 := ho.2.1
  refine Fn_ofg (ps := [[1, 1, 0, 1, 0, 0, 1, 0, 0, 1], [1, 1, 0, 1, 0, 0, 1, 0, 0, 1], [1, 0]]) (fn := f121) (by exact func121) c121 r121 (n := 46) (by rfl) (rv := [.cell 2 35]) (by rfl) (by simp) ?_
  unfold m121
  try simp only [wQ]
  simp only [ghAll, ghAt]
  simp only [Off.s, offP]
  repeat' (first | (simp only [css_noOwn, strs_noOwn, onC_true, dl_len, ↓wA, ↓wC, wB, frzBE, frzBS, reduceEqDiff, reduceAdd, reduceSub, reduceIte, reduceCtorEq, Nat.reduceBEq, reduceLT, sz35]) | ((first | apply execG_split | apply execC_split | apply onPick_split) <;> intro h <;> try simp only [h]))
  refine exec_gh1 (frzB 0 rfl) ?_
  simp only [frzBE, frzBS, D.unown, css_unown, strs_unown, css_noOwn, strs_noOwn, onC_true, dl_len, ↓wA, ↓wC, wB, frzBE, frzBS, reduceEqDiff, reduceAdd, reduceSub, reduceIte, reduceCtorEq, Nat.reduceBEq, reduceLT, sz35]
  refine onJ_i (fun s => Weak s (ownA o 2 []) ∨ Weak s (ownA o 3 [.dead]) ∨ Weak s (ownA o 4 [.dead, .dead]) ∨ Weak s (ownA o 5 [.dead, .dead, .dead])) ?_ ?_
  · repeat' (first
      | (with_reducible refine And.intro ?_ ?_)
      | (with_reducible refine onC_i ?_ ?_; focus omega))
    all_goals (first | exact .inl (weak_of _ rfl ⟨⟨rfl, rfl⟩, ⟨rfl, rfl⟩, ⟨rfl, rfl⟩, trivial⟩) | exact .inr (.inl (weak_of _ rfl ⟨⟨rfl, rfl⟩, ⟨rfl, rfl⟩, ⟨rfl, rfl⟩, trivial⟩)) | exact .inr (.inr (.inl (weak_of _ rfl ⟨⟨rfl, rfl⟩, ⟨rfl, rfl⟩, ⟨rfl, rfl⟩, trivial⟩))) | exact .inr (.inr (.inr (weak_of _ rfl ⟨⟨rfl, rfl⟩, ⟨rfl, rfl⟩, ⟨rfl, rfl⟩, trivial⟩))) | trace_state)
  · rintro s' (h | h | h | h)
    · refine ⟨_, h, ?_⟩
      simp only [ownA, List.cons_append, List.nil_append, ↓wA, ↓wC, wB, frzBE, frzBS, reduceEqDiff, reduceAdd, reduceSub, reduceIte, reduceCtorEq, Nat.reduceBEq, reduceLT, sz35]
      refine exec_range o.cs.length (fun i : Nat => ⟨[(1, .d (.ptr o.s)), (2, .ptr 1 0 []), (3, .ptr 2 0 []), (4, .d (.int .i64 i))], .dead :: .box zO :: ([] ++ [.box (offP o (.sl true 4 (dl Cs.s (o.cs.take i))) (.sl true 1 (dl D.str o.led)))])⟩) (fun _ => True) ?_ trivial ?_ ?_
      · exact (weak_of _ rfl ⟨⟨rfl, rfl⟩, ⟨rfl, rfl⟩, ⟨rfl, rfl⟩, ⟨rfl, rfl⟩, trivial⟩)
      · intro i hlt _ hd h0
        obtain ⟨x, hr⟩ := get_lt hlt
        have h1 : Fn prog 190 [.sl false 1 (dl iD x.h)] (fun rs => rs = [.sl false 1 (dl iD x.h)]) := by
          have h := Fn_unown (l1OwnI_fn x.h (ho.1.2 x (List.mem_of_getElem? hr)))
          simpa [D.unown, ints_unown] using h
        simp only [Off.s, offP, List.cons_append, List.nil_append]
        repeat' (first | (simp only [dl_len, hd, h0, dl_nth, Int.toNat_natCast, hr, Option.map_some, onC_true, css_noOwn, strs_noOwn, ↓rd_cs, Cs.s_isV, Cs.s_size, ↓wA, ↓wC, wB, frzBE, frzBS, reduceEqDiff, reduceAdd, reduceSub, reduceIte, reduceCtorEq, Nat.reduceBEq, reduceLT, sz35]) | (refine onI_bare (by simp only [InR]; omega) ?_) | ((first | apply execG_split | apply execC_split | apply onPick_split) <;> intro h <;> try simp only [h]))
        refine exec_gh1 (frzB 3 rfl) ?_
        simp only [frzBE, frzBS, Cs.s_unown, ↓wA, ↓wC, wB, frzBE, frzBS, reduceEqDiff, reduceAdd, reduceSub, reduceIte, reduceCtorEq, Nat.reduceBEq, reduceLT, sz35]
        refine exec_gh _ (unlink 2 none [1] (es := 4) (xs := dl Cs.s (o.cs.take i)) rfl rfl) fun v1 => ?_
        simp only [obSet, Cs.s, Cs.p, css_noOwn, strs_noOwn, onC_true, dl_len, ↓wA, ↓wC, wB, frzBE, frzBS, reduceEqDiff, reduceAdd, reduceSub, reduceIte, reduceCtorEq, Nat.reduceBEq, reduceLT, sz35]
        repeat' (first | (simp only [dl_len, hd, h0, onC_true, css_noOwn, strs_noOwn, ints_noOwn, ↓wA, ↓wC, wB, frzBE, frzBS, reduceEqDiff, reduceAdd, reduceSub, reduceIte, reduceCtorEq, Nat.reduceBEq, reduceLT, sz35]) | (refine onJ_q ?_) | (refine call_det h1 rfl rfl ?_) | (with_reducible refine onC_i ?_ ?_; focus omega) | (refine onI_bare (by simp only [InR]; omega) ?_) | ((first | apply execG_split | apply execC_split | apply onPick_split) <;> intro h <;> try simp only [h]))
        refine onC_i (by simp) ?_
        have hl : (o.cs.take i).length = i := by simp; omega
        refine onC_i (by rw [hl]; omega) ?_
        refine onI_bare (by simp only [InR]; omega) ?_
        refine ⟨i + 1, ?_, by omega, by omega⟩
        have happ : (dl Cs.s (o.cs.take i)).app ((D.st (.cons (.int .i64 x.i) (.cons (.int .i64 x.a) (.cons (.int .i64 x.d) (.cons (.sl false 1 (dl iD x.h)) .nil))))).cons .nil) = dl Cs.s (o.cs.take (i + 1)) := (app_one (f := Cs.s) (o.cs.take i) x).trans (by rw [take_get hr])
        rw [happ]
        exact (weak_of _ rfl ⟨⟨rfl, rfl⟩, ⟨rfl, rfl⟩, ⟨rfl, rfl⟩, ⟨rfl, rfl⟩, trivial⟩)
      · intro _ hd
        rw [List.take_length]
        simp only [Off.s, offP, List.cons_append, List.nil_append]
        repeat' (first | (simp only [dl_len, hd, onC_true, ↓wA, ↓wC, wB, frzBE, frzBS, reduceEqDiff, reduceAdd, reduceSub, reduceIte, reduceCtorEq, Nat.reduceBEq, reduceLT, sz35]) | ((first | apply execG_split | apply execC_split | apply onPick_split) <;> intro h <;> try simp only [h]))
        exact onC_i (css_noOwn _) (onC_i rfl (onC_i rfl rfl))
    · refine ⟨_, h, ?_⟩
      simp only [ownA, List.cons_append, List.nil_append, ↓wA, ↓wC, wB, frzBE, frzBS, reduceEqDiff, reduceAdd, reduceSub, reduceIte, reduceCtorEq, Nat.reduceBEq, reduceLT, sz35]
      refine exec_range o.cs.length (fun i : Nat => ⟨[(1, .d (.ptr o.s)), (2, .ptr 1 0 []), (3, .ptr 3 0 []), (4, .d (.int .i64 i))], .dead :: .box zO :: ([.dead] ++ [.box (offP o (.sl true 4 (dl Cs.s (o.cs.take i))) (.sl true 1 (dl D.str o.led)))])⟩) (fun _ => True) ?_ trivial ?_ ?_
      · exact (weak_of _ rfl ⟨⟨rfl, rfl⟩, ⟨rfl, rfl⟩, ⟨rfl, rfl⟩, ⟨rfl, rfl⟩, trivial⟩)
      · intro i hlt _ hd h0
        obtain ⟨x, hr⟩ := get_lt hlt
        have h1 : Fn prog 190 [.sl false 1 (dl iD x.h)] (fun rs => rs = [.sl false 1 (dl iD x.h)]) := by
          have h := Fn_unown (l1OwnI_fn x.h (ho.1.2 x (List.mem_of_getElem? hr)))
          simpa [D.unown, ints_unown] using h
        simp only [Off.s, offP, List.cons_append, List.nil_append]
        repeat' (first | (simp only [dl_len, hd, h0, dl_nth, Int.toNat_natCast, hr, Option.map_some, onC_true, css_noOwn, strs_noOwn, ↓rd_cs, Cs.s_isV, Cs.s_size, ↓wA, ↓wC, wB, frzBE, frzBS, reduceEqDiff, reduceAdd, reduceSub, reduceIte, reduceCtorEq, Nat.reduceBEq, reduceLT, sz35]) | (refine onI_bare (by simp only [InR]; omega) ?_) | ((first | apply execG_split | apply execC_split | apply onPick_split) <;> intro h <;> try simp only [h]))
        refine exec_gh1 (frzB 4 rfl) ?_
        simp only [frzBE, frzBS, Cs.s_unown, ↓wA, ↓wC, wB, frzBE, frzBS, reduceEqDiff, reduceAdd, reduceSub, reduceIte, reduceCtorEq, Nat.reduceBEq, reduceLT, sz35]
        refine exec_gh _ (unlink 3 none [1] (es := 4) (xs := dl Cs.s (o.cs.take i)) rfl rfl) fun v1 => ?_
        simp only [obSet, Cs.s, Cs.p, css_noOwn, strs_noOwn, onC_true, dl_len, ↓wA, ↓wC, wB, frzBE, frzBS, reduceEqDiff, reduceAdd, reduceSub, reduceIte, reduceCtorEq, Nat.reduceBEq, reduceLT, sz35]
        repeat' (first | (simp only [dl_len, hd, h0, onC_true, css_noOwn, strs_noOwn, ints_noOwn, ↓wA, ↓wC, wB, frzBE, frzBS, reduceEqDiff, reduceAdd, reduceSub, reduceIte, reduceCtorEq, Nat.reduceBEq, reduceLT, sz35]) | (refine onJ_q ?_) | (refine call_det h1 rfl rfl ?_) | (with_reducible refine onC_i ?_ ?_; focus omega) | (refine onI_bare (by simp only [InR]; omega) ?_) | ((first | apply execG_split | apply execC_split | apply onPick_split) <;> intro h <;> try simp only [h]))
        refine onC_i (by simp) ?_
        have hl : (o.cs.take i).length = i := by simp; omega
        refine onC_i (by rw [hl]; omega) ?_
        refine onI_bare (by simp only [InR]; omega) ?_
        refine ⟨i + 1, ?_, by omega, by omega⟩
        have happ : (dl Cs.s (o.cs.take i)).app ((D.st (.cons (.int .i64 x.i) (.cons (.int .i64 x.a) (.cons (.int .i64 x.d) (.cons (.sl false 1 (dl iD x.h)) .nil))))).cons .nil) = dl Cs.s (o.cs.take (i + 1)) := (app_one (f := Cs.s) (o.cs.take i) x).trans (by rw [take_get hr])
        rw [happ]
        exact (weak_of _ rfl ⟨⟨rfl, rfl⟩, ⟨rfl, rfl⟩, ⟨rfl, rfl⟩, ⟨rfl, rfl⟩, trivial⟩)
      · intro _ hd
        rw [List.take_length]
        simp only [Off.s, offP, List.cons_append, List.nil_append]
        repeat' (first | (simp only [dl_len, hd, onC_true, ↓wA, ↓wC, wB, frzBE, frzBS, reduceEqDiff, reduceAdd, reduceSub, reduceIte, reduceCtorEq, Nat.reduceBEq, reduceLT, sz35]) | ((first | apply execG_split | apply execC_split | apply onPick_split) <;> intro h <;> try simp only [h]))
        exact onC_i (css_noOwn _) (onC_i rfl (onC_i rfl rfl))
    · refine ⟨_, h, ?_⟩
      simp only [ownA, List.cons_append, List.nil_append, ↓wA, ↓wC, wB, frzBE, frzBS, reduceEqDiff, reduceAdd, reduceSub, reduceIte, reduceCtorEq, Nat.reduceBEq, reduceLT, sz35]
      refine exec_range o.cs.length (fun i : Nat => ⟨[(1, .d (.ptr o.s)), (2, .ptr 1 0 []), (3, .ptr 4 0 []), (4, .d (.int .i64 i))], .dead :: .box zO :: ([.dead, .dead] ++ [.box (offP o (.sl true 4 (dl Cs.s (o.cs.take i))) (.sl true 1 (dl D.str o.led)))])⟩) (fun _ => True) ?_ trivial ?_ ?_
      · exact (weak_of _ rfl ⟨⟨rfl, rfl⟩, ⟨rfl, rfl⟩, ⟨rfl, rfl⟩, ⟨rfl, rfl⟩, trivial⟩)
      · intro i hlt _ hd h0
        obtain ⟨x, hr⟩ := get_lt hlt
        have h1 : Fn prog 190 [.sl false 1 (dl iD x.h)] (fun rs => rs = [.sl false 1 (dl iD x.h)]) := by
          have h := Fn_unown (l1OwnI_fn x.h (ho.1.2 x (List.mem_of_getElem? hr)))
          simpa [D.unown, ints_unown] using h
        simp only [Off.s, offP, List.cons_append, List.nil_append]
        repeat' (first | (simp only [dl_len, hd, h0, dl_nth, Int.toNat_natCast, hr, Option.map_some, onC_true, css_noOwn, strs_noOwn, ↓rd_cs, Cs.s_isV, Cs.s_size, ↓wA, ↓wC, wB, frzBE, frzBS, reduceEqDiff, reduceAdd, reduceSub, reduceIte, reduceCtorEq, Nat.reduceBEq, reduceLT, sz35]) | (refine onI_bare (by simp only [InR]; omega) ?_) | ((first | apply execG_split | apply execC_split | apply onPick_split) <;> intro h <;> try simp only [h]))
        refine exec_gh1 (frzB 5 rfl) ?_
        simp only [frzBE, frzBS, Cs.s_unown, ↓wA, ↓wC, wB, frzBE, frzBS, reduceEqDiff, reduceAdd, reduceSub, reduceIte, reduceCtorEq, Nat.reduceBEq, reduceLT, sz35]
        refine exec_gh _ (unlink 4 none [1] (es := 4) (xs := dl Cs.s (o.cs.take i)) rfl rfl) fun v1 => ?_
        simp only [obSet, Cs.s, Cs.p, css_noOwn, strs_noOwn, onC_true, dl_len, ↓wA, ↓wC, wB, frzBE, frzBS, reduceEqDiff, reduceAdd, reduceSub, reduceIte, reduceCtorEq, Nat.reduceBEq, reduceLT, sz35]
        repeat' (first | (simp only [dl_len, hd, h0, onC_true, css_noOwn, strs_noOwn, ints_noOwn, ↓wA, ↓wC, wB, frzBE, frzBS, reduceEqDiff, reduceAdd, reduceSub, reduceIte, reduceCtorEq, Nat.reduceBEq, reduceLT, sz35]) | (refine onJ_q ?_) | (refine call_det h1 rfl rfl ?_) | (with_reducible refine onC_i ?_ ?_; focus omega) | (refine onI_bare (by simp only [InR]; omega) ?_) | ((first | apply execG_split | apply execC_split | apply onPick_split) <;> intro h <;> try simp only [h]))
        refine onC_i (by simp) ?_
        have hl : (o.cs.take i).length = i := by simp; omega
        refine onC_i (by rw [hl]; omega) ?_
        refine onI_bare (by simp only [InR]; omega) ?_
        refine ⟨i + 1, ?_, by omega, by omega⟩
        have happ : (dl Cs.s (o.cs.take i)).app ((D.st (.cons (.int .i64 x.i) (.cons (.int .i64 x.a) (.cons (.int .i64 x.d) (.cons (.sl false 1 (dl iD x.h)) .nil))))).cons .nil) = dl Cs.s (o.cs.take (i + 1)) := (app_one (f := Cs.s) (o.cs.take i) x).trans (by rw [take_get hr])
        rw [happ]
        exact (weak_of _ rfl ⟨⟨rfl, rfl⟩, ⟨rfl, rfl⟩, ⟨rfl, rfl⟩, ⟨rfl, rfl⟩, trivial⟩)
      · intro _ hd
        rw [List.take_length]
        simp only [Off.s, offP, List.cons_append, List.nil_append]
        repeat' (first | (simp only [dl_len, hd, onC_true, ↓wA, ↓wC, wB, frzBE, frzBS, reduceEqDiff, reduceAdd, reduceSub, reduceIte, reduceCtorEq, Nat.reduceBEq, reduceLT, sz35]) | ((first | apply execG_split | apply execC_split | apply onPick_split) <;> intro h <;> try simp only [h]))
        exact onC_i (css_noOwn _) (onC_i rfl (onC_i rfl rfl))
    · refine ⟨_, h, ?_⟩
      simp only [ownA, List.cons_append, List.nil_append, ↓wA, ↓wC, wB, frzBE, frzBS, reduceEqDiff, reduceAdd, reduceSub, reduceIte, reduceCtorEq, Nat.reduceBEq, reduceLT, sz35]
      refine exec_range o.cs.length (fun i : Nat => ⟨[(1, .d (.ptr o.s)), (2, .ptr 1 0 []), (3, .ptr 5 0 []), (4, .d (.int .i64 i))], .dead :: .box zO :: ([.dead, .dead, .dead] ++ [.box (offP o (.sl true 4 (dl Cs.s (o.cs.take i))) (.sl true 1 (dl D.str o.led)))])⟩) (fun _ => True) ?_ trivial ?_ ?_
      · exact (weak_of _ rfl ⟨⟨rfl, rfl⟩, ⟨rfl, rfl⟩, ⟨rfl, rfl⟩, ⟨rfl, rfl⟩, trivial⟩)
      · intro i hlt _ hd h0
        obtain ⟨x, hr⟩ := get_lt hlt
        have h1 : Fn prog 190 [.sl false 1 (dl iD x.h)] (fun rs => rs = [.sl false 1 (dl iD x.h)]) := by
          have h := Fn_unown (l1OwnI_fn x.h (ho.1.2 x (List.mem_of_getElem? hr)))
          simpa [D.unown, ints_unown] using h
        simp only [Off.s, offP, List.cons_append, List.nil_append]
        repeat' (first | (simp only [dl_len, hd, h0, dl_nth, Int.toNat_natCast, hr, Option.map_some, onC_true, css_noOwn, strs_noOwn, ↓rd_cs, Cs.s_isV, Cs.s_size, ↓wA, ↓wC, wB, frzBE, frzBS, reduceEqDiff, reduceAdd, reduceSub, reduceIte, reduceCtorEq, Nat.reduceBEq, reduceLT, sz35]) | (refine onI_bare (by simp only [InR]; omega) ?_) | ((first | apply execG_split | apply execC_split | apply onPick_split) <;> intro h <;> try simp only [h]))
        refine exec_gh1 (frzB 6 rfl) ?_
        simp only [frzBE, frzBS, Cs.s_unown, ↓wA, ↓wC, wB, frzBE, frzBS, reduceEqDiff, reduceAdd, reduceSub, reduceIte, reduceCtorEq, Nat.reduceBEq, reduceLT, sz35]
        refine exec_gh _ (unlink 5 none [1] (es := 4) (xs := dl Cs.s (o.cs.take i)) rfl rfl) fun v1 => ?_
        simp only [obSet, Cs.s, Cs.p, css_noOwn, strs_noOwn, onC_true, dl_len, ↓wA, ↓wC, wB, frzBE, frzBS, reduceEqDiff, reduceAdd, reduceSub, reduceIte, reduceCtorEq, Nat.reduceBEq, reduceLT, sz35]
        repeat' (first | (simp only [dl_len, hd, h0, onC_true, css_noOwn, strs_noOwn, ints_noOwn, ↓wA, ↓wC, wB, frzBE, frzBS, reduceEqDiff, reduceAdd, reduceSub, reduceIte, reduceCtorEq, Nat.reduceBEq, reduceLT, sz35]) | (refine onJ_q ?_) | (refine call_det h1 rfl rfl ?_) | (with_reducible refine onC_i ?_ ?_; focus omega) | (refine onI_bare (by simp only [InR]; omega) ?_) | ((first | apply execG_split | apply execC_split | apply onPick_split) <;> intro h <;> try simp only [h]))
        refine onC_i (by simp) ?_
        have hl : (o.cs.take i).length = i := by simp; omega
        refine onC_i (by rw [hl]; omega) ?_
        refine onI_bare (by simp only [InR]; omega) ?_
        refine ⟨i + 1, ?_, by omega, by omega⟩
        have happ : (dl Cs.s (o.cs.take i)).app ((D.st (.cons (.int .i64 x.i) (.cons (.int .i64 x.a) (.cons (.int .i64 x.d) (.cons (.sl false 1 (dl iD x.h)) .nil))))).cons .nil) = dl Cs.s (o.cs.take (i + 1)) := (app_one (f := Cs.s) (o.cs.take i) x).trans (by rw [take_get hr])
        rw [happ]
        exact (weak_of _ rfl ⟨⟨rfl, rfl⟩, ⟨rfl, rfl⟩, ⟨rfl, rfl⟩, ⟨rfl, rfl⟩, trivial⟩)
      · intro _ hd
        rw [List.take_length]
        simp only [Off.s, offP, List.cons_append, List.nil_append]
        repeat' (first | (simp only [dl_len, hd, onC_true, ↓wA, ↓wC, wB, frzBE, frzBS, reduceEqDiff, reduceAdd, reduceSub, reduceIte, reduceCtorEq, Nat.reduceBEq, reduceLT, sz35]) | ((first | apply execG_split | apply execC_split | apply onPick_split) <;> intro h <;> try simp only [h]))
        exact onC_i (css_noOwn _) (onC_i rfl (onC_i rfl rfl))
end Go.Pe.Tryz
set_option maxRecDepth 100000
set_option maxHeartbeats 4000000
set_option linter.all false
namespace Go.Pe.Tryz
open Nat (reduceEqDiff reduceAdd reduceSub reduceLT)
open Go.Proofs.Tryz
theorem l25Step_fn (o : Off) (k id a v : Int) (ho : o.ok0) : Fn prog 112 [o.s, stD k id a v] (fun rs => rs = [.bool (stepB o k id a v)]) := by
  have hF := l25Find_fn o id ho
  have hid := l1In_fn id 1 999
  have ha := l1In_fn a 1 3
  have hv := l1In_fn v 1 9
  unfold stepB
  refine Fn_of' (fn := f112) (by exact func112) c112 r112 (n := 106) (by rfl) (rv := [.tmp 4]) (by rfl) (by simp) ?_
  unfold m112
  try simp only [wQ]
  simp only [stD]
  repeat' (first | (simp only [Off.s_noOwn, Off.s_isV, Off.s_size, ↓rd_off, onC_true, ↓wA, ↓wC, wB, frzBE, frzBS, reduceEqDiff, reduceAdd, reduceSub, reduceIte, reduceCtorEq, Nat.reduceBEq, reduceLT, sz35]) | (refine call_det hF (by simp [argsD, argD, Off.s_unown]) rfl ?_) | (refine call_det (hid) rfl rfl ?_) | (refine callP_det (hid) rfl rfl ?_) | (refine call_det (ha) rfl rfl ?_) | (refine callP_det (ha) rfl rfl ?_) | (refine call_det (hv) rfl rfl ?_) | (refine callP_det (hv) rfl rfl ?_) | ((first | apply execG_split | apply execC_split | apply onPick_split) <;> intro h <;> try simp only [h]))
  all_goals simp_all
theorem l25Enter_fn (o : Off) (k id a v : Int) (ho : o.ok0) (hb : InR .i64 (o.day + v)) : Fn prog 178 [o.s, stD k id a v] (fun rs => rs = [Off.w { o with cs := enterC ⟨id, a, o.day + v, []⟩ o.cs }]) := by
  have hO := l25Own_fn o ho
  have hno : o.w.noOwn = false := by simp [Off.w, offP, D.noOwn]
  have hwV : o.w.isV = true := rfl
  have hwS : o.w.size = 5 := rfl
  have hlen := ho.1.1
  refine Fn_ofg (ps := [[1, 1, 1, 1, 1, 0], [1, 1, 0], [1, 1, 0], [1, 1, 0]]) (fn := f178) (by exact func178) c178 r178 (n := 55) (by rfl) (rv := [.cell 4 35]) (by rfl) (by simp) ?_
  unfold m178
  try simp only [wQ]
  simp only [ghAll, ghAt]
  simp only [stD]
  repeat' (first | (simp only [Off.s_noOwn, Off.s_isV, Off.s_size, hno, hwV, hwS, ↓rd_off, onC_true, ↓wA, ↓wC, wB, frzBE, frzBS, reduceEqDiff, reduceAdd, reduceSub, reduceIte, reduceCtorEq, Nat.reduceBEq, reduceLT, sz35]) | (refine call_det hO (by simp [argsD, argD, Off.s_unown]) rfl ?_) | ((first | apply execG_split | apply execC_split | apply onPick_split) <;> intro h <;> try simp only [h]))
  refine exec_gh1 (frzB 0 rfl) ?_
  simp only [frzBE, frzBS, Off.s_unown, ↓wA, ↓wC, wB, frzBE, frzBS, reduceEqDiff, reduceAdd, reduceSub, reduceIte, reduceCtorEq, Nat.reduceBEq, reduceLT, sz35]
  refine exec_gh1 (frzB 1 rfl) ?_
  simp only [frzBE, frzBS, D.unown, ↓wA, ↓wC, wB, frzBE, frzBS, reduceEqDiff, reduceAdd, reduceSub, reduceIte, reduceCtorEq, Nat.reduceBEq, reduceLT, sz35]
  refine exec_gh1 (freeze 4 none [1] (x := .sl true 4 (dl Cs.s o.cs)) rfl rfl rfl) ?_
  simp only [obSet, Off.w, offP, D.unown, css_unown, ↓wA, ↓wC, wB, frzBE, frzBS, reduceEqDiff, reduceAdd, reduceSub, reduceIte, reduceCtorEq, Nat.reduceBEq, reduceLT, sz35]
  refine exec_loop (fun j : Nat => ⟨[(2, .d (.ptr o.s)), (3, .d (.ptr (stD k id a v))), (4, .ptr 2 0 []), (5, .ptr 4 0 []), (6, .d (.int .i64 j))], [.dead, .dead, .box zO, .dead, .box (offP o (.sl false 4 (dl Cs.s o.cs)) (.sl true 1 (dl D.str o.led)))]⟩) (fun j => j ≤ o.cs.length ∧ ∀ m x, m < j → o.cs[m]? = some x → x.i < id) (fun j => o.cs.length - j) 0 (weak_of _ rfl ⟨⟨rfl, rfl⟩, ⟨rfl, rfl⟩, ⟨rfl, rfl⟩, ⟨rfl, rfl⟩, ⟨rfl, rfl⟩, trivial⟩) ⟨by omega, fun m x hm => by omega⟩ ?_
  rintro j ⟨hj1, hj2⟩
  simp only [offP, stD]
  have hcm : ∀ x : Cs, Cs.s x = x.p (.sl false 1 (dl iD x.h)) := fun _ => rfl
  have hj0 : (0 : Int) ≤ (j : Int) := by omega
  by_cases hlt : j < o.cs.length
  · obtain ⟨x, hr⟩ := get_lt hlt
    have hd : decide ((j : Int) < (o.cs.length : Int)) = true := decide_eq_true (by omega)
    cases hx : decide (x.i < id) with
    | true =>
      repeat' (first | (simp only [onC_true, dl_len, dl_nth, hd, hx, hr, hj0, Cs.s, Cs.p, css_noOwn, strs_noOwn, Int.toNat_natCast, Option.map_some, doff_q0, dget_q0, ↓wA, ↓wC, wB, frzBE, frzBS, reduceEqDiff, reduceAdd, reduceSub, reduceIte, reduceCtorEq, Nat.reduceBEq, reduceLT, sz35]) | (with_reducible refine onI_bare ?_ ?_; focus (simp only [InR]; omega)) | ((first | apply execG_split | apply execC_split | apply onPick_split) <;> intro h <;> try simp only [h]))
      refine ⟨j + 1, (weak_of _ rfl ⟨⟨rfl, rfl⟩, ⟨rfl, rfl⟩, ⟨rfl, rfl⟩, ⟨rfl, rfl⟩, ⟨rfl, rfl⟩, trivial⟩), ⟨by omega, fun m y hm hy => ?_⟩, by omega⟩
      by_cases e : m = j
      · subst e
        rw [hr] at hy
        injection hy with hy
        rw [← hy]; exact of_decide_eq_true hx
      · exact hj2 m y (by omega) hy
    | false =>
      have hpl : placeC id o.cs = j := placeC_eq o.cs j hj1 hj2 (fun y hy => by rw [hr] at hy; injection hy with hy; rw [← hy]; exact of_decide_eq_false hx)
      repeat' (first | (simp only [onC_true, dl_len, dl_nth, hd, hx, hr, hj0, Off.s, offP, Cs.s, Cs.p, css_noOwn, strs_noOwn, Int.toNat_natCast, Option.map_some, doff_q0, dget_q0, ↓wA, ↓wC, wB, frzBE, frzBS, reduceEqDiff, reduceAdd, reduceSub, reduceIte, reduceCtorEq, Nat.reduceBEq, reduceLT, sz35]) | (with_reducible refine onI_bare hb ?_) | (with_reducible refine onI_bare ?_ ?_; focus (simp only [InR]; omega)) | ((first | apply execG_split | apply execC_split | apply onPick_split) <;> intro h <;> try simp only [h]))
      refine exec_gh1 (frzB 7 rfl) ?_
      simp only [frzBE, frzBS, D.unown, ↓wA, ↓wC, wB, frzBE, frzBS, reduceEqDiff, reduceAdd, reduceSub, reduceIte, reduceCtorEq, Nat.reduceBEq, reduceLT, sz35]
      repeat' (first | (simp only [onC_true, dl_len, css_noOwn, strs_noOwn, ↓wA, ↓wC, wB, frzBE, frzBS, reduceEqDiff, reduceAdd, reduceSub, reduceIte, reduceCtorEq, Nat.reduceBEq, reduceLT, sz35]) | (refine onJ_q ?_) | (with_reducible refine And.intro ?_ ?_) | (with_reducible refine onI_bare ?_ ?_; focus (simp only [InR]; omega)) | ((first | apply execG_split | apply execC_split | apply onPick_split) <;> intro h <;> try simp only [h]))
      have hs1 : (dl Cs.s o.cs).sub 0 j = dl Cs.s (o.cs.take j) := by rw [dl_sub]; rfl
      have hs2 : (dl Cs.s o.cs).sub j o.cs.length = dl Cs.s (o.cs.drop j) := by rw [dl_sub, List.take_length]
      have happ : ∀ xs : List Cs, (dl Cs.s xs).app (D.cons (D.st (.cons (.int .i64 id) (.cons (.int .i64 a) (.cons (.int .i64 (o.day + v)) (.cons (.sl false 1 .nil) .nil))))) .nil) = dl Cs.s (xs ++ [⟨id, a, o.day + v, []⟩]) := fun xs => app_one (f := Cs.s) xs ⟨id, a, o.day + v, []⟩
      have hen : enterC ⟨id, a, o.day + v, []⟩ o.cs = (o.cs.take j ++ [⟨id, a, o.day + v, []⟩]) ++ o.cs.drop j := by unfold enterC; rw [hpl]; simp
      rw [hen]
      clear hen
      simp only [Int.toNat_natCast, hs1, hs2, happ, dl_app, dl_len, List.length_append, List.length_take, List.length_drop, List.length_singleton, Nat.min_eq_left hj1]
      repeat' (first | (with_reducible refine And.intro ?_ ?_) | (with_reducible refine onC_i ?_ ?_; focus omega) | (with_reducible refine onC_i ?_ ?_; focus (simp; done)) | (with_reducible refine onC_i ?_ ?_; focus rfl) | rfl)
      all_goals exact onC_i rfl (onC_i rfl trivial)
  · have hd : decide ((j : Int) < (o.cs.length : Int)) = false := decide_eq_false (by omega)
    have hpl : placeC id o.cs = j := placeC_eq o.cs j hj1 hj2 (fun y hy => by have := lt_of_get hy; omega)
    repeat' (first | (simp only [onC_true, dl_len, dl_nth, hd, hd, hd, hj0, Off.s, offP, Cs.s, Cs.p, css_noOwn, strs_noOwn, Int.toNat_natCast, Option.map_some, doff_q0, dget_q0, ↓wA, ↓wC, wB, frzBE, frzBS, reduceEqDiff, reduceAdd, reduceSub, reduceIte, reduceCtorEq, Nat.reduceBEq, reduceLT, sz35]) | (with_reducible refine onI_bare hb ?_) | (with_reducible refine onI_bare ?_ ?_; focus (simp only [InR]; omega)) | ((first | apply execG_split | apply execC_split | apply onPick_split) <;> intro h <;> try simp only [h]))
    refine exec_gh1 (frzB 7 rfl) ?_
    simp only [frzBE, frzBS, D.unown, ↓wA, ↓wC, wB, frzBE, frzBS, reduceEqDiff, reduceAdd, reduceSub, reduceIte, reduceCtorEq, Nat.reduceBEq, reduceLT, sz35]
    repeat' (first | (simp only [onC_true, dl_len, css_noOwn, strs_noOwn, ↓wA, ↓wC, wB, frzBE, frzBS, reduceEqDiff, reduceAdd, reduceSub, reduceIte, reduceCtorEq, Nat.reduceBEq, reduceLT, sz35]) | (refine onJ_q ?_) | (with_reducible refine And.intro ?_ ?_) | (with_reducible refine onI_bare ?_ ?_; focus (simp only [InR]; omega)) | ((first | apply execG_split | apply execC_split | apply onPick_split) <;> intro h <;> try simp only [h]))
    have hs1 : (dl Cs.s o.cs).sub 0 j = dl Cs.s (o.cs.take j) := by rw [dl_sub]; rfl
    have hs2 : (dl Cs.s o.cs).sub j o.cs.length = dl Cs.s (o.cs.drop j) := by rw [dl_sub, List.take_length]
    have happ : ∀ xs : List Cs, (dl Cs.s xs).app (D.cons (D.st (.cons (.int .i64 id) (.cons (.int .i64 a) (.cons (.int .i64 (o.day + v)) (.cons (.sl false 1 .nil) .nil))))) .nil) = dl Cs.s (xs ++ [⟨id, a, o.day + v, []⟩]) := fun xs => app_one (f := Cs.s) xs ⟨id, a, o.day + v, []⟩
    have hen : enterC ⟨id, a, o.day + v, []⟩ o.cs = (o.cs.take j ++ [⟨id, a, o.day + v, []⟩]) ++ o.cs.drop j := by unfold enterC; rw [hpl]; simp
    rw [hen]
    clear hen
    simp only [Int.toNat_natCast, hs1, hs2, happ, dl_app, dl_len, List.length_append, List.length_take, List.length_drop, List.length_singleton, Nat.min_eq_left hj1]
    repeat' (first | (with_reducible refine And.intro ?_ ?_) | (with_reducible refine onC_i ?_ ?_; focus omega) | (with_reducible refine onC_i ?_ ?_; focus (simp; done)) | (with_reducible refine onC_i ?_ ?_; focus rfl) | rfl)
    all_goals exact onC_i rfl (onC_i rfl trivial)
end Go.Pe.Tryz
set_option maxRecDepth 100000
set_option maxHeartbeats 4000000
set_option linter.all false
namespace Go.Pe.Tryz
open Nat (reduceEqDiff reduceAdd reduceSub reduceLT)
open Go.Proofs.Tryz
def leftI (v : Int) (h : List Int) : List Int := h.filter fun n => !decide (n = v)
theorem leftI_snoc {v r : Int} {h : List Int} {k : Nat} (hr : h[k]? = some r) : leftI v (h.take (k + 1)) = leftI v (h.take k) ++ (if r = v then [] else [r]) := by
  rw [take_get hr]
  unfold leftI
  rw [List.filter_append]
  by_cases e : r = v
  · simp [e]
  · simp [e]
theorem hasI_snoc {v r : Int} {h : List Int} {k : Nat} (hr : h[k]? = some r) : (h.take (k + 1)).contains v = ((h.take k).contains v || decide (v = r)) := by
  rw [take_get hr]
  simp [List.contains_eq_any_beq, List.any_append]
theorem leftI_le (v : Int) (h : List Int) : (leftI v h).length ≤ h.length := List.length_filter_le _ _
theorem l25Release_fn (o : Off) (v : Int) (ho : o.ok0) : Fn prog 180 [o.s, .int .i64 v] (fun rs => rs = [Off.w { o with cs := o.cs.map (relC v) }, .bool (hasC v o.cs)]) := by
  have hO := l25Own_fn o ho
  have hno : o.w.noOwn = false := by simp [Off.w, offP, D.noOwn]
  have hwV : o.w.isV = true := rfl
  have hwS : o.w.size = 5 := rfl
  have hlen := ho.1.1
  refine Fn_ofg (ps := [[1, 1, 0, 1, 0, 0, 1, 0, 0, 1, 1], [1, 1, 0, 0], [1, 1, 1, 0]]) (fn := f180) (by exact func180) c180 r180 (n := 57) (by rfl) (rv := [.cell 4 35, .tmp 5]) (by rfl) (by simp) ?_
  unfold m180
  try simp only [wQ]
  simp only [ghAll, ghAt]
  repeat' (first | (simp only [Off.s_noOwn, Off.s_isV, Off.s_size, hno, hwV, hwS, ↓rd_off, onC_true, ↓wA, ↓wC, wB, frzBE, frzBS, reduceEqDiff, reduceAdd, reduceSub, reduceIte, reduceCtorEq, Nat.reduceBEq, reduceLT, sz35]) | (refine call_det hO (by simp [argsD, argD, Off.s_unown]) rfl ?_) | ((first | apply execG_split | apply execC_split | apply onPick_split) <;> intro h <;> try simp only [h]))
  simp only [Off.w, offP]
  refine exec_gh _ (unlink 3 none [1] (es := 4) (xs := dl Cs.s o.cs) rfl rfl) fun v1 => ?_
  simp only [obSet, onC_true, dl_len, ↓wA, ↓wC, wB, frzBE, frzBS, reduceEqDiff, reduceAdd, reduceSub, reduceIte, reduceCtorEq, Nat.reduceBEq, reduceLT, sz35]
  refine exec_range o.cs.length (fun i : Nat => ⟨[(1, .d (.int .i64 v)), (4, .ptr 1 0 []), (6, .ptr 3 0 []), (7, .d (.bool (hasC v (o.cs.take i)))), (8, .d (.int .i64 i))], [.box o.s, .box zO, .dead, .box (offP o (.lnk 5 v1) (.sl true 1 (dl D.str o.led))), .val (.sl true 4 (dl Cs.s (relM v o.cs i))), .tag 4 v1]⟩) (fun _ => True) ?_ trivial ?_ ?_
  · exact (weak_of _ rfl ⟨⟨rfl, rfl⟩, ⟨rfl, rfl⟩, ⟨rfl, rfl⟩, ⟨rfl, rfl⟩, ⟨rfl, rfl⟩, trivial⟩)
  · intro i hlt _ hd h0
    obtain ⟨x, hr⟩ := get_lt hlt
    have hg := relM_get (v := v) hr
    have hxo := ho.1.2 x (List.mem_of_getElem? hr)
    have hxl : x.h.length ≤ 1048576 := hxo
    have hxs : Cs.s x = x.p (.sl false 1 (dl iD x.h)) := rfl
    have hgs : ∀ (y : D), ((dl Cs.s (relM v o.cs i)).setN i y).nth i = some y := fun y => by rw [setN_nth, if_pos rfl, dl_nth, hg]; rfl
    have hgn : (dl Cs.s (relM v o.cs i)).nth i = some (x.p (.sl false 1 (dl iD x.h))) := by rw [dl_nth, hg]; rfl
    have hx := hasC_snoc (v := v) hr
    simp only [offP]
    repeat' (first | (simp only [dl_len, relM_len, hd, h0, onC_true, ↓wA, ↓wC, wB, frzBE, frzBS, reduceEqDiff, reduceAdd, reduceSub, reduceIte, reduceCtorEq, Nat.reduceBEq, reduceLT, sz35]) | ((first | apply execG_split | apply execC_split | apply onPick_split) <;> intro h <;> try simp only [h]))
    refine exec_range x.h.length (fun k : Nat => ⟨[(1, .d (.int .i64 v)), (4, .ptr 1 0 []), (6, .ptr 3 0 []), (7, .d (.bool (hasC v (o.cs.take i) || (x.h.take k).contains v))), (8, .d (.int .i64 i)), (9, .own 6), (10, .d (.int .i64 k))], [.box o.s, .box zO, .dead, .box (offP o (.lnk 5 v1) (.sl true 1 (dl D.str o.led))), .val (.sl true 4 (dl Cs.s (relM v o.cs i))), .tag 4 v1, .val (.sl true 1 (dl iD (leftI v (x.h.take k))))]⟩) (fun _ => True) ?_ trivial ?_ ?_
    · rw [List.take_zero, show ([] : List Int).contains v = false from rfl, Bool.or_false]
      exact (weak_of _ rfl ⟨⟨rfl, rfl⟩, ⟨rfl, rfl⟩, ⟨rfl, rfl⟩, ⟨rfl, rfl⟩, ⟨rfl, rfl⟩, ⟨rfl, rfl⟩, ⟨rfl, rfl⟩, trivial⟩)
    · intro k hk _ hkd hk0
      obtain ⟨r, hkr⟩ := get_lt hk
      have hlx := leftI_snoc (v := v) hkr
      have hhx := hasI_snoc (v := v) hkr
      simp only [offP]
      cases hrv : decide (r = v) with
      | true =>
        have hrv' := of_decide_eq_true hrv
        rw [if_pos hrv', List.append_nil] at hlx
        rw [decide_eq_true hrv'.symm, Bool.or_true] at hhx
        repeat' (first | (simp only [dl_len, relM_len, hd, h0, hkd, hk0, hrv, hgn, dl_nth, hkr, Int.toNat_natCast, Option.map_some, rd_iD, ints_noOwn, onC_true, doff_q3, dget_q3, dset_q3, ↓wA, ↓wC, wB, frzBE, frzBS, reduceEqDiff, reduceAdd, reduceSub, reduceIte, reduceCtorEq, Nat.reduceBEq, reduceLT, sz35]) | (with_reducible refine onI_bare ?_ ?_; focus (simp only [InR]; omega)) | ((first | apply execG_split | apply execC_split | apply onPick_split) <;> intro h <;> try simp only [h]))
        refine ⟨k + 1, ?_, by omega, by omega⟩
        rw [hlx, hhx, Bool.or_true]
        exact (weak_of _ rfl ⟨⟨rfl, rfl⟩, ⟨rfl, rfl⟩, ⟨rfl, rfl⟩, ⟨rfl, rfl⟩, ⟨rfl, rfl⟩, ⟨rfl, rfl⟩, ⟨rfl, rfl⟩, trivial⟩)
      | false =>
        have hrv' := of_decide_eq_false hrv
        rw [if_neg hrv'] at hlx
        rw [decide_eq_false (fun e => hrv' e.symm), Bool.or_false] at hhx
        repeat' (first | (simp only [dl_len, relM_len, hd, h0, hkd, hk0, hrv, hgn, dl_nth, hkr, Int.toNat_natCast, Option.map_some, rd_iD, ints_noOwn, onC_true, doff_q3, dget_q3, dset_q3, ↓wA, ↓wC, wB, frzBE, frzBS, reduceEqDiff, reduceAdd, reduceSub, reduceIte, reduceCtorEq, Nat.reduceBEq, reduceLT, sz35]) | (with_reducible refine onI_bare ?_ ?_; focus (simp only [InR]; omega)) | ((first | apply execG_split | apply execC_split | apply onPick_split) <;> intro h <;> try simp only [h]))
        have hll := leftI_le v (x.h.take k)
        have hlt2 : (x.h.take k).length ≤ k := by simp; omega
        refine onC_i (by simp) ?_
        refine onC_i (by omega) ?_
        refine onI_bare (by simp only [InR]; omega) ?_
        have happ : (dl iD (leftI v (x.h.take k))).app (D.cons (.int .i64 r) .nil) = dl iD (leftI v (x.h.take (k + 1))) := (app_one (f := iD) _ r).trans (by rw [hlx])
        rw [happ]
        refine ⟨k + 1, ?_, by omega, by omega⟩
        rw [hhx]
        exact (weak_of _ rfl ⟨⟨rfl, rfl⟩, ⟨rfl, rfl⟩, ⟨rfl, rfl⟩, ⟨rfl, rfl⟩, ⟨rfl, rfl⟩, ⟨rfl, rfl⟩, ⟨rfl, rfl⟩, trivial⟩)
    · intro _ hkd
      rw [List.take_length]
      simp only [offP]
      repeat' (first | (simp only [dl_len, relM_len, hd, h0, hkd, hgn, dl_nth, Int.toNat_natCast, Option.map_some, ints_noOwn, onC_true, doff_q3, dget_q3, dset_q3, ↓wA, ↓wC, wB, frzBE, frzBS, reduceEqDiff, reduceAdd, reduceSub, reduceIte, reduceCtorEq, Nat.reduceBEq, reduceLT, sz35]) | ((first | apply execG_split | apply execC_split | apply onPick_split) <;> intro h <;> try simp only [h]))
      refine exec_gh1 (frzO 6 rfl) ?_
      simp only [frzE, frzS, D.unown, ints_unown, ↓wA, ↓wC, wB, frzBE, frzBS, reduceEqDiff, reduceAdd, reduceSub, reduceIte, reduceCtorEq, Nat.reduceBEq, reduceLT, sz35]
      repeat' (first | (simp only [dl_len, relM_len, hd, h0, hgn, hgs, setN_setN, dl_nth, Int.toNat_natCast, Option.map_some, ints_noOwn, onC_true, doff_q3, dget_q3, dset_q3, ↓wA, ↓wC, wB, frzBE, frzBS, reduceEqDiff, reduceAdd, reduceSub, reduceIte, reduceCtorEq, Nat.reduceBEq, reduceLT, sz35]) | (with_reducible refine onI_bare ?_ ?_; focus (simp only [InR]; omega)) | ((first | apply execG_split | apply execC_split | apply onPick_split) <;> intro h <;> try simp only [h]))
      have e : x.p (.sl false 1 (dl iD (leftI v x.h))) = Cs.s (relC v x) := rfl
      rw [e, dl_setN, relM_set hr]
      refine ⟨i + 1, ?_, by omega, by omega⟩
      rw [hx]
      exact (weak_of _ rfl ⟨⟨rfl, rfl⟩, ⟨rfl, rfl⟩, ⟨rfl, rfl⟩, ⟨rfl, rfl⟩, ⟨rfl, rfl⟩, trivial⟩)
  · intro _ hd
    have er : relM v o.cs o.cs.length = o.cs.map (relC v) := by simp [relM]
    rw [er, List.take_length]
    simp only [offP]
    repeat' (first | (simp only [dl_len, List.length_map, hd, onC_true, ↓wA, ↓wC, wB, frzBE, frzBS, reduceEqDiff, reduceAdd, reduceSub, reduceIte, reduceCtorEq, Nat.reduceBEq, reduceLT, sz35]) | ((first | apply execG_split | apply execC_split | apply onPick_split) <;> intro h <;> try simp only [h]))
    refine exec_gh1 (relink 3 5 4 none [1] rfl rfl rfl rfl (by decide) rfl) ?_
    simp only [obSet, ↓wA, ↓wC, wB, frzBE, frzBS, reduceEqDiff, reduceAdd, reduceSub, reduceIte, reduceCtorEq, Nat.reduceBEq, reduceLT, sz35]
    repeat' (first | (simp only [strs_noOwn, onC_true, ↓wA, ↓wC, wB, frzBE, frzBS, reduceEqDiff, reduceAdd, reduceSub, reduceIte, reduceCtorEq, Nat.reduceBEq, reduceLT, sz35]) | ((first | apply execG_split | apply execC_split | apply onPick_split) <;> intro h <;> try simp only [h]))
    exact onC_i rfl (onC_i rfl trivial)
end Go.Pe.Tryz
set_option maxRecDepth 100000
set_option maxHeartbeats 4000000
set_option linter.all false
namespace Go.Pe.Tryz
open Nat (reduceEqDiff reduceAdd reduceSub reduceLT)
open Go.Proofs.Tryz
end Go.Pe.Tryz
set_option maxRecDepth 100000
set_option maxHeartbeats 4000000
set_option linter.all false
namespace Go.Pe.Tryz
open Nat (reduceEqDiff reduceAdd reduceSub reduceLT)
open Go.Proofs.Tryz
theorem l1Put_fn (v : List Int) (p : Int) (hlen : v.length ≤ 1048576) (hp : p ∉ v) : Fn prog 179 [.sl false 1 (dl iD v), .int .i64 p] (fun rs => rs = [.sl true 1 (dl iD (putI p v))]) := by
  refine Fn_of' (fn := f179) (by exact func179) c179 r179 (n := 45) (by rfl) (rv := [.tmp 4]) (by rfl) (by simp) ?_
  unfold m179
  try simp only [wQ]
  simp only [↓wA, ↓wC, wB, frzBE, frzBS, reduceEqDiff, reduceAdd, reduceSub, reduceIte, reduceCtorEq, Nat.reduceBEq, reduceLT]
  refine exec_loop (fun k : Nat => ⟨[(0, .d (.sl false 1 (dl iD v))), (1, .d (.int .i64 p)), (5, .d (.int .i64 k))], []⟩) (fun k => k ≤ v.length ∧ ∀ m x, m < k → v[m]? = some x → x < p) (fun k => v.length - k) 0 (weak_of _ rfl ⟨⟨rfl, rfl⟩, ⟨rfl, rfl⟩, ⟨rfl, rfl⟩, trivial⟩) ⟨by omega, fun m x hm _ => by omega⟩ ?_
  rintro k ⟨hk, hinv⟩
  have h0 : (0 : Int) ≤ (k : Int) := by omega
  have hs1 : (dl iD v).sub 0 k = dl iD (v.take k) := by rw [dl_sub]; rfl
  have hs2 : (dl iD v).sub k v.length = dl iD (v.drop k) := by rw [dl_sub, List.take_length]
  have hs3 : (dl iD v).sub v.length v.length = dl iD (v.drop v.length) := by rw [dl_sub, List.take_length]
  have hs4 : (dl iD v).sub 0 v.length = dl iD (v.take v.length) := by rw [dl_sub]; rfl
  by_cases hlt : k < v.length
  · obtain ⟨x, hx⟩ := get_lt hlt
    have hd : decide ((k : Int) < (v.length : Int)) = true := decide_eq_true (by omega)
    cases hc : decide (x < p) with
    | true =>
      repeat' (first | (simp only [dl_len, hd, h0, hc, dl_nth, Int.toNat_natCast, hx, Option.map_some, rd_iD, onC_true, ↓wA, ↓wC, wB, frzBE, frzBS, reduceEqDiff, reduceAdd, reduceSub, reduceIte, reduceCtorEq, Nat.reduceBEq, reduceLT]) | (with_reducible refine onI_bare ?_ ?_; focus (simp only [InR]; omega)) | ((first | apply execG_split | apply execC_split | apply onPick_split) <;> intro h <;> try simp only [h]))
      refine ⟨k + 1, (weak_of _ rfl ⟨⟨rfl, rfl⟩, ⟨rfl, rfl⟩, ⟨rfl, rfl⟩, trivial⟩), ⟨by omega, fun m z hm hz => ?_⟩, by omega⟩
      by_cases e : m = k
      · subst e
        rw [hx] at hz
        injection hz with hz
        rw [← hz]
        exact of_decide_eq_true hc
      · exact hinv m z (by omega) hz
    | false =>
      have hpos := pos_eq v k hk hinv (fun z hz => by
        rw [hx] at hz
        injection hz with hz
        rw [← hz]
        exact of_decide_eq_false hc)
      have hne : decide (x = p) = false := decide_eq_false (fun e => hp (e ▸ List.mem_of_getElem? hx))
      rw [putI, hpos]
      repeat' (first | (simp only [dl_len, hd, h0, hc, hne, dl_nth, Int.toNat_natCast, hx, Option.map_some, rd_iD, onC_true, ↓wA, ↓wC, wB, frzBE, frzBS, reduceEqDiff, reduceAdd, reduceSub, reduceIte, reduceCtorEq, Nat.reduceBEq, reduceLT]) | (refine onJ_q ?_) | (with_reducible refine And.intro ?_ ?_) | (with_reducible refine onC_i ?_ ?_; focus omega) | (with_reducible refine onC_i ?_ ?_; focus (simp; done)) | (with_reducible refine onC_i ?_ ?_; focus (simp; omega)) | (with_reducible refine onI_bare ?_ ?_; focus (simp only [InR]; omega)) | ((first | apply execG_split | apply execC_split | apply onPick_split) <;> intro h <;> try simp only [h]))
      all_goals
        simp only [hs1, hs2, app_int, dl_app, dl_len, List.length_append, List.length_take, List.length_drop, List.length_singleton, Nat.min_eq_left hk]
        repeat' (first | (with_reducible refine onC_i ?_ ?_; focus omega) | (with_reducible refine onC_i ?_ ?_; focus (simp; done)))
        all_goals simp [List.append_assoc]
  · have hd : decide ((k : Int) < (v.length : Int)) = false := decide_eq_false (by omega)
    have e : k = v.length := by omega
    have hpos := pos_eq v k hk hinv (fun z hz => absurd (lt_of_get hz) (by omega))
    rw [putI, hpos]
    subst e
    repeat' (first | (simp only [dl_len, hd, h0, Int.toNat_natCast, rd_iD, onC_true, ↓wA, ↓wC, wB, frzBE, frzBS, reduceEqDiff, reduceAdd, reduceSub, reduceIte, reduceCtorEq, Nat.reduceBEq, reduceLT]) | (refine onJ_q ?_) | (with_reducible refine And.intro ?_ ?_) | (with_reducible refine onC_i ?_ ?_; focus omega) | (with_reducible refine onC_i ?_ ?_; focus (simp; done)) | (with_reducible refine onC_i ?_ ?_; focus (simp; omega)) | (with_reducible refine onI_bare ?_ ?_; focus (simp only [InR]; omega)) | ((first | apply execG_split | apply execC_split | apply onPick_split) <;> intro h <;> try simp only [h]))
    all_goals
      simp only [hs3, hs4, app_int, dl_app, dl_len, List.length_append, List.length_take, List.length_drop, List.length_singleton, Nat.min_eq_left hk]
      repeat' (first | (with_reducible refine onC_i ?_ ?_; focus omega) | (with_reducible refine onC_i ?_ ?_; focus (simp; done)))
      all_goals simp [List.append_assoc]
end Go.Pe.Tryz
set_option maxRecDepth 100000
set_option maxHeartbeats 4000000
set_option linter.all false
namespace Go.Pe.Tryz
open Nat (reduceEqDiff reduceAdd reduceSub reduceLT)
open Go.Proofs.Tryz
def actA (o : Off) (x : Cs) (i : Nat) (a : Nat) (l : List Ob) : St := ⟨[(1, .d (.int .i64 i)), (2, .d (.ptr o.s)), (4, .ptr 1 0 []), (6, .ptr a 0 []), (7, .d (.ptr x.s))], .dead :: .box zO :: (l ++ [.box (offP o (.sl true 4 (dl Cs.s o.cs)) (.sl true 1 (dl D.str o.led)))])⟩
theorem frzBx {s : St} (q : Nat) {x y : D} (hq : s.o[q]? = some (.box x)) (hy : x.unown = y) : Weak s ⟨frzBE q y s.e, s.o.set q .dead⟩ := hy ▸ frzB q hq
theorem l25Act_fn (o : Off) (i : Nat) (x : Cs) (ho : offOK o = true) (hr : o.cs[i]? = some x) : Fn prog 181 [o.s, .int .i64 i] (fun rs => rs = [(outO o i x).w, .bool (dealB o x && offOK (outO o i x))]) := by
  have ho0 := off_ok0 ho
  have hp := off_parts ho
  have hO := l25Own_fn o ho0
  have hno : o.w.noOwn = false := by simp [Off.w, offP, D.noOwn]
  have hwV : o.w.isV = true := rfl
  have hwS : o.w.size = 5 := rfl
  have h0 : (0 : Int) ≤ (i : Int) := by omega
  refine Fn_ofg (ps := [[1, 1, 1, 0, 1, 0, 1, 1, 1, 1, 0], [1, 1, 0], [1, 0]]) (fn := f181) (by exact func181) c181 r181 (n := 82) (by rfl) (rv := [.cell 4 35, .tmp 5]) (by rfl) (by simp) ?_
  unfold m181
  try simp only [wQ]
  simp only [ghAll, ghAt]
  repeat' (first | (simp only [Off.s_noOwn, Off.s_isV, Off.s_size, hno, hwV, hwS, ↓rd_off, onC_true, ↓wA, ↓wC, wB, frzBE, frzBS, reduceEqDiff, reduceAdd, reduceSub, reduceIte, reduceCtorEq, Nat.reduceBEq, reduceLT, sz35]) | ((first | apply execG_split | apply execC_split | apply onPick_split) <;> intro h <;> try simp only [h]))
  refine exec_gh1 (frzB 0 rfl) ?_
  simp only [frzBE, frzBS, Off.s_unown, ↓wA, ↓wC, wB, frzBE, frzBS, reduceEqDiff, reduceAdd, reduceSub, reduceIte, reduceCtorEq, Nat.reduceBEq, reduceLT, sz35]
  have hfa : ∀ K : SV → Prop, stepFa 1 1 (.d (.ptr o.s)) K = K (.d (.ptr (.sl false 4 (dl Cs.s o.cs)))) := fun K => by simp [Off.s, offP, stepFa, D.pre, D.nth, D.size]
  simp only [hfa, hr, h0, dl_len, dl_nth, Int.toNat_natCast, Option.map_some, css_noOwn, Off.s_noOwn, Off.s_isV, Off.s_size, hno, hwV, hwS, ↓rd_off, ↓rd_cs, onC_true, Cs.s_isV, Cs.s_size, ↓wA, ↓wC, wB, frzBE, frzBS, reduceEqDiff, reduceAdd, reduceSub, reduceIte, reduceCtorEq, Nat.reduceBEq, reduceLT, sz35]
  refine onJ_i (fun s => Weak s (actA o x i 2 []) ∨ Weak s (actA o x i 3 [.dead]) ∨ Weak s (actA o x i 4 [.dead, .dead])) ?_ ?_
  · repeat' (first
      | (with_reducible refine And.intro ?_ ?_)
      | (refine call_det hO (by simp [argsD, argD, Off.s_unown]) rfl ?_)
      | (refine callP_det hO (by simp [argsD, argD, Off.s_unown]) rfl ?_)
      | (simp only [hno, hwV, hwS, Off.s_noOwn, Off.s_isV, Off.s_size, Cs.s_noOwn, Cs.s_isV, Cs.s_size, onC_true, ↓wA, ↓wC, wB, frzBE, frzBS, reduceEqDiff, reduceAdd, reduceSub, reduceIte, reduceCtorEq, Nat.reduceBEq, reduceLT, sz35]))
    all_goals (first
      | exact .inl ((frzBx 3 rfl (Cs.s_unown x)).trans (weak_of _ rfl ⟨⟨rfl, rfl⟩, ⟨rfl, rfl⟩, ⟨rfl, rfl⟩, ⟨rfl, rfl⟩, ⟨rfl, rfl⟩, trivial⟩))
      | exact .inl ((frzBx 4 rfl (Cs.s_unown x)).trans (weak_of _ rfl ⟨⟨rfl, rfl⟩, ⟨rfl, rfl⟩, ⟨rfl, rfl⟩, ⟨rfl, rfl⟩, ⟨rfl, rfl⟩, trivial⟩))
      | exact .inr (.inl ((frzBx 2 rfl (Cs.s_unown x)).trans (weak_of _ rfl ⟨⟨rfl, rfl⟩, ⟨rfl, rfl⟩, ⟨rfl, rfl⟩, ⟨rfl, rfl⟩, ⟨rfl, rfl⟩, trivial⟩)))
      | exact .inr (.inl ((frzBx 4 rfl (Cs.s_unown x)).trans (weak_of _ rfl ⟨⟨rfl, rfl⟩, ⟨rfl, rfl⟩, ⟨rfl, rfl⟩, ⟨rfl, rfl⟩, ⟨rfl, rfl⟩, trivial⟩)))
      | exact .inr (.inr ((frzBx 2 rfl (Cs.s_unown x)).trans (weak_of _ rfl ⟨⟨rfl, rfl⟩, ⟨rfl, rfl⟩, ⟨rfl, rfl⟩, ⟨rfl, rfl⟩, ⟨rfl, rfl⟩, trivial⟩)))
      | exact .inr (.inr ((frzBx 3 rfl (Cs.s_unown x)).trans (weak_of _ rfl ⟨⟨rfl, rfl⟩, ⟨rfl, rfl⟩, ⟨rfl, rfl⟩, ⟨rfl, rfl⟩, ⟨rfl, rfl⟩, trivial⟩))))
  · have hil := lt_of_get hr
    have hfx : ∀ K : SV → Prop, stepFa 1 1 (.d (.ptr x.s)) K = K (.d (.ptr (.int .i64 x.a))) := fun K => by simp [Cs.s, Cs.p, stepFa, D.pre, D.nth, D.size]
    have hf2 : ∀ K : SV → Prop, stepFa 2 2 (.d (.ptr o.s)) K = K (.d (.ptr (.int .i64 o.kept))) := fun K => by simp [Off.s, offP, stepFa, D.pre, D.nth, D.size]
    have hf3 : ∀ K : SV → Prop, stepFa 3 3 (.d (.ptr o.s)) K = K (.d (.ptr (.int .i64 o.moved))) := fun K => by simp [Off.s, offP, stepFa, D.pre, D.nth, D.size]
    have hf0 : ∀ K : SV → Prop, stepFa 0 0 (.d (.ptr o.s)) K = K (.d (.ptr (.int .i64 o.day))) := fun K => by simp [Off.s, offP, stepFa, D.pre, D.nth, D.size]
    have hx2 : ∀ K : SV → Prop, stepFa 2 2 (.d (.ptr x.s)) K = K (.d (.ptr (.int .i64 x.d))) := fun K => by simp [Cs.s, Cs.p, stepFa, D.pre, D.nth, D.size]
    have hx0 : ∀ K : SV → Prop, stepFa 0 0 (.d (.ptr x.s)) K = K (.d (.ptr (.int .i64 x.i))) := fun K => by simp [Cs.s, Cs.p, stepFa, D.pre, D.nth, D.size]
    have hx3 : ∀ K : SV → Prop, stepFa 3 3 (.d (.ptr x.s)) K = K (.d (.ptr (.sl false 1 (dl iD x.h)))) := fun K => by simp [Cs.s, Cs.p, stepFa, D.pre, D.nth, D.size]
    have hs1 : (dl Cs.s o.cs).sub 0 i = dl Cs.s (o.cs.take i) := by rw [dl_sub]; rfl
    have hs2 : (dl Cs.s o.cs).sub (i + 1) o.cs.length = dl Cs.s (o.cs.drop (i + 1)) := by rw [dl_sub, List.take_length]
    have htn : ((i : Int) + 1).toNat = i + 1 := by omega
    have happ : (dl Cs.s (o.cs.take i)).app (dl Cs.s (o.cs.drop (i + 1))) = dl Cs.s (o.cs.eraseIdx i) := by rw [dl_app, List.eraseIdx_eq_take_drop_succ]
    have hl1 : (o.cs.take i).length = i := by simp; omega
    have hl2 : (o.cs.drop (i + 1)).length = o.cs.length - (i + 1) := by simp
    have hok : (outO o i x).ok0 := by
      have hle : casesOk (o.cs.eraseIdx i) := ⟨by have := List.length_eraseIdx_le o.cs i; omega, fun y hy => ho0.1.2 y (List.mem_of_mem_eraseIdx hy)⟩
      unfold outO
      split
      · exact ⟨hle, ho0.2⟩
      · split
        · exact ⟨hle, ho0.2⟩
        · refine ⟨hle, by simp; omega, fun s hs => ?_⟩
          have hxc := case_parts (hp.2.2.2.2.2.2.2.2.2 x (List.mem_of_getElem? hr))
          rcases List.mem_append.1 hs with hs | hs
          · exact ho0.2.2 s hs
          · rw [List.mem_singleton.1 hs]
            have h1 := itoa_le x.i (by simp only [InR]; omega)
            have h2 := itoa_le o.day (by simp only [InR]; omega)
            simp [entryT]; omega
    have hG := l25Good_fn (outO o i x) hok
    cases k1 : decide (x.a = 1) with
    | true =>
      have ha := k1
      have k2 := k1
      have hu : (D.st (.cons (.int .i64 o.day) (.cons (.sl true 4 (dl Cs.s (o.cs.eraseIdx i))) (.cons (.int .i64 (o.kept + 1)) (.cons (.int .i64 o.moved) (.cons (.sl true 1 (dl D.str o.led)) .nil)))))).unown = (outO o i x).s := by
        unfold outO
        rw [if_pos (of_decide_eq_true k1)]
        simp [Off.s, offP, D.unown, css_unown, strs_unown]
      have hwE : (D.st (.cons (.int .i64 o.day) (.cons (.sl true 4 (dl Cs.s (o.cs.eraseIdx i))) (.cons (.int .i64 (o.kept + 1)) (.cons (.int .i64 o.moved) (.cons (.sl true 1 (dl D.str o.led)) .nil)))))) = (outO o i x).w := by
        unfold outO
        rw [if_pos (of_decide_eq_true k1)]
        rfl
      rintro s' (h | h | h)
      · refine ⟨_, h, ?_⟩
        simp only [actA, List.cons_append, List.nil_append, ↓wA, ↓wC, wB, frzBE, frzBS, reduceEqDiff, reduceAdd, reduceSub, reduceIte, reduceCtorEq, Nat.reduceBEq, reduceLT, sz35]
        refine exec_gh1 (freeze 2 none [1] (x := .sl true 4 (dl Cs.s o.cs)) rfl rfl rfl) ?_
        simp only [obSet, offP, D.unown, css_unown, ↓wA, ↓wC, wB, frzBE, frzBS, reduceEqDiff, reduceAdd, reduceSub, reduceIte, reduceCtorEq, Nat.reduceBEq, reduceLT, sz35]
        cases hdd : decide (x.d ≤ o.day) with
        | true =>
          have hdb : dealB o x = true := by simp [dealB, of_decide_eq_true hdd, of_decide_eq_true k1]
          repeat' (first | (simp only [onC_true, isStB_st, dl_len, css_noOwn, strs_noOwn, hfx, hf0, hf2, hf3, hx0, hx2, hx3, Int.toNat_natCast, htn, hs1, hs2, happ, hl1, hl2, ha, hdd, k1, k2, ↓wA, ↓wC, wB, frzBE, frzBS, reduceEqDiff, reduceAdd, reduceSub, reduceIte, reduceCtorEq, Nat.reduceBEq, reduceLT, sz35]) | (refine onJ_q ?_) | (with_reducible refine And.intro ?_ ?_) | (with_reducible refine onC_i ?_ ?_; focus omega) | (with_reducible refine onI_bare ?_ ?_; focus (simp only [InR]; omega)) | (refine call_det hG (congrArg (fun d : D => some [d]) hu) rfl ?_) | (refine callP_det hG (congrArg (fun d : D => some [d]) hu) rfl ?_) | ((first | apply execG_split | apply execC_split | apply onPick_split) <;> intro h <;> try simp only [h]))
          all_goals (refine onC_i rfl ?_; rw [hwE, hdb, Bool.true_and])
        | false =>
          have hdb : dealB o x = false := by simp [dealB, of_decide_eq_false hdd]
          repeat' (first | (simp only [onC_true, isStB_st, dl_len, css_noOwn, strs_noOwn, hfx, hf0, hf2, hf3, hx0, hx2, hx3, Int.toNat_natCast, htn, hs1, hs2, happ, hl1, hl2, ha, hdd, k1, k2, ↓wA, ↓wC, wB, frzBE, frzBS, reduceEqDiff, reduceAdd, reduceSub, reduceIte, reduceCtorEq, Nat.reduceBEq, reduceLT, sz35]) | (refine onJ_q ?_) | (with_reducible refine And.intro ?_ ?_) | (with_reducible refine onC_i ?_ ?_; focus omega) | (with_reducible refine onI_bare ?_ ?_; focus (simp only [InR]; omega)) | (refine call_det hG (congrArg (fun d : D => some [d]) hu) rfl ?_) | (refine callP_det hG (congrArg (fun d : D => some [d]) hu) rfl ?_) | ((first | apply execG_split | apply execC_split | apply onPick_split) <;> intro h <;> try simp only [h]))
          all_goals (refine onC_i rfl ?_; rw [hwE, hdb, Bool.false_and])
      · refine ⟨_, h, ?_⟩
        simp only [actA, List.cons_append, List.nil_append, ↓wA, ↓wC, wB, frzBE, frzBS, reduceEqDiff, reduceAdd, reduceSub, reduceIte, reduceCtorEq, Nat.reduceBEq, reduceLT, sz35]
        refine exec_gh1 (freeze 3 none [1] (x := .sl true 4 (dl Cs.s o.cs)) rfl rfl rfl) ?_
        simp only [obSet, offP, D.unown, css_unown, ↓wA, ↓wC, wB, frzBE, frzBS, reduceEqDiff, reduceAdd, reduceSub, reduceIte, reduceCtorEq, Nat.reduceBEq, reduceLT, sz35]
        cases hdd : decide (x.d ≤ o.day) with
        | true =>
          have hdb : dealB o x = true := by simp [dealB, of_decide_eq_true hdd, of_decide_eq_true k1]
          repeat' (first | (simp only [onC_true, isStB_st, dl_len, css_noOwn, strs_noOwn, hfx, hf0, hf2, hf3, hx0, hx2, hx3, Int.toNat_natCast, htn, hs1, hs2, happ, hl1, hl2, ha, hdd, k1, k2, ↓wA, ↓wC, wB, frzBE, frzBS, reduceEqDiff, reduceAdd, reduceSub, reduceIte, reduceCtorEq, Nat.reduceBEq, reduceLT, sz35]) | (refine onJ_q ?_) | (with_reducible refine And.intro ?_ ?_) | (with_reducible refine onC_i ?_ ?_; focus omega) | (with_reducible refine onI_bare ?_ ?_; focus (simp only [InR]; omega)) | (refine call_det hG (congrArg (fun d : D => some [d]) hu) rfl ?_) | (refine callP_det hG (congrArg (fun d : D => some [d]) hu) rfl ?_) | ((first | apply execG_split | apply execC_split | apply onPick_split) <;> intro h <;> try simp only [h]))
          all_goals (refine onC_i rfl ?_; rw [hwE, hdb, Bool.true_and])
        | false =>
          have hdb : dealB o x = false := by simp [dealB, of_decide_eq_false hdd]
          repeat' (first | (simp only [onC_true, isStB_st, dl_len, css_noOwn, strs_noOwn, hfx, hf0, hf2, hf3, hx0, hx2, hx3, Int.toNat_natCast, htn, hs1, hs2, happ, hl1, hl2, ha, hdd, k1, k2, ↓wA, ↓wC, wB, frzBE, frzBS, reduceEqDiff, reduceAdd, reduceSub, reduceIte, reduceCtorEq, Nat.reduceBEq, reduceLT, sz35]) | (refine onJ_q ?_) | (with_reducible refine And.intro ?_ ?_) | (with_reducible refine onC_i ?_ ?_; focus omega) | (with_reducible refine onI_bare ?_ ?_; focus (simp only [InR]; omega)) | (refine call_det hG (congrArg (fun d : D => some [d]) hu) rfl ?_) | (refine callP_det hG (congrArg (fun d : D => some [d]) hu) rfl ?_) | ((first | apply execG_split | apply execC_split | apply onPick_split) <;> intro h <;> try simp only [h]))
          all_goals (refine onC_i rfl ?_; rw [hwE, hdb, Bool.false_and])
      · refine ⟨_, h, ?_⟩
        simp only [actA, List.cons_append, List.nil_append, ↓wA, ↓wC, wB, frzBE, frzBS, reduceEqDiff, reduceAdd, reduceSub, reduceIte, reduceCtorEq, Nat.reduceBEq, reduceLT, sz35]
        refine exec_gh1 (freeze 4 none [1] (x := .sl true 4 (dl Cs.s o.cs)) rfl rfl rfl) ?_
        simp only [obSet, offP, D.unown, css_unown, ↓wA, ↓wC, wB, frzBE, frzBS, reduceEqDiff, reduceAdd, reduceSub, reduceIte, reduceCtorEq, Nat.reduceBEq, reduceLT, sz35]
        cases hdd : decide (x.d ≤ o.day) with
        | true =>
          have hdb : dealB o x = true := by simp [dealB, of_decide_eq_true hdd, of_decide_eq_true k1]
          repeat' (first | (simp only [onC_true, isStB_st, dl_len, css_noOwn, strs_noOwn, hfx, hf0, hf2, hf3, hx0, hx2, hx3, Int.toNat_natCast, htn, hs1, hs2, happ, hl1, hl2, ha, hdd, k1, k2, ↓wA, ↓wC, wB, frzBE, frzBS, reduceEqDiff, reduceAdd, reduceSub, reduceIte, reduceCtorEq, Nat.reduceBEq, reduceLT, sz35]) | (refine onJ_q ?_) | (with_reducible refine And.intro ?_ ?_) | (with_reducible refine onC_i ?_ ?_; focus omega) | (with_reducible refine onI_bare ?_ ?_; focus (simp only [InR]; omega)) | (refine call_det hG (congrArg (fun d : D => some [d]) hu) rfl ?_) | (refine callP_det hG (congrArg (fun d : D => some [d]) hu) rfl ?_) | ((first | apply execG_split | apply execC_split | apply onPick_split) <;> intro h <;> try simp only [h]))
          all_goals (refine onC_i rfl ?_; rw [hwE, hdb, Bool.true_and])
        | false =>
          have hdb : dealB o x = false := by simp [dealB, of_decide_eq_false hdd]
          repeat' (first | (simp only [onC_true, isStB_st, dl_len, css_noOwn, strs_noOwn, hfx, hf0, hf2, hf3, hx0, hx2, hx3, Int.toNat_natCast, htn, hs1, hs2, happ, hl1, hl2, ha, hdd, k1, k2, ↓wA, ↓wC, wB, frzBE, frzBS, reduceEqDiff, reduceAdd, reduceSub, reduceIte, reduceCtorEq, Nat.reduceBEq, reduceLT, sz35]) | (refine onJ_q ?_) | (with_reducible refine And.intro ?_ ?_) | (with_reducible refine onC_i ?_ ?_; focus omega) | (with_reducible refine onI_bare ?_ ?_; focus (simp only [InR]; omega)) | (refine call_det hG (congrArg (fun d : D => some [d]) hu) rfl ?_) | (refine callP_det hG (congrArg (fun d : D => some [d]) hu) rfl ?_) | ((first | apply execG_split | apply execC_split | apply onPick_split) <;> intro h <;> try simp only [h]))
          all_goals (refine onC_i rfl ?_; rw [hwE, hdb, Bool.false_and])
    | false =>
      have k1' := of_decide_eq_false k1
      cases k2 : decide (x.a = 2) with
      | true =>
        have ha := k2
        have hu : (D.st (.cons (.int .i64 o.day) (.cons (.sl true 4 (dl Cs.s (o.cs.eraseIdx i))) (.cons (.int .i64 o.kept) (.cons (.int .i64 (o.moved + 1)) (.cons (.sl true 1 (dl D.str o.led)) .nil)))))).unown = (outO o i x).s := by
          unfold outO
          rw [if_neg k1', if_pos (of_decide_eq_true k2)]
          simp [Off.s, offP, D.unown, css_unown, strs_unown]
        have hwE : (D.st (.cons (.int .i64 o.day) (.cons (.sl true 4 (dl Cs.s (o.cs.eraseIdx i))) (.cons (.int .i64 o.kept) (.cons (.int .i64 (o.moved + 1)) (.cons (.sl true 1 (dl D.str o.led)) .nil)))))) = (outO o i x).w := by
          unfold outO
          rw [if_neg k1', if_pos (of_decide_eq_true k2)]
          rfl
        rintro s' (h | h | h)
        · refine ⟨_, h, ?_⟩
          simp only [actA, List.cons_append, List.nil_append, ↓wA, ↓wC, wB, frzBE, frzBS, reduceEqDiff, reduceAdd, reduceSub, reduceIte, reduceCtorEq, Nat.reduceBEq, reduceLT, sz35]
          refine exec_gh1 (freeze 2 none [1] (x := .sl true 4 (dl Cs.s o.cs)) rfl rfl rfl) ?_
          simp only [obSet, offP, D.unown, css_unown, ↓wA, ↓wC, wB, frzBE, frzBS, reduceEqDiff, reduceAdd, reduceSub, reduceIte, reduceCtorEq, Nat.reduceBEq, reduceLT, sz35]
          cases hdd : decide (x.d ≤ o.day) with
          | true =>
            have hdb : dealB o x = true := by simp [dealB, of_decide_eq_true hdd, of_decide_eq_true k2]
            repeat' (first | (simp only [onC_true, isStB_st, dl_len, css_noOwn, strs_noOwn, hfx, hf0, hf2, hf3, hx0, hx2, hx3, Int.toNat_natCast, htn, hs1, hs2, happ, hl1, hl2, ha, hdd, k1, k2, ↓wA, ↓wC, wB, frzBE, frzBS, reduceEqDiff, reduceAdd, reduceSub, reduceIte, reduceCtorEq, Nat.reduceBEq, reduceLT, sz35]) | (refine onJ_q ?_) | (with_reducible refine And.intro ?_ ?_) | (with_reducible refine onC_i ?_ ?_; focus omega) | (with_reducible refine onI_bare ?_ ?_; focus (simp only [InR]; omega)) | (refine call_det hG (congrArg (fun d : D => some [d]) hu) rfl ?_) | (refine callP_det hG (congrArg (fun d : D => some [d]) hu) rfl ?_) | ((first | apply execG_split | apply execC_split | apply onPick_split) <;> intro h <;> try simp only [h]))
            all_goals (refine onC_i rfl ?_; rw [hwE, hdb, Bool.true_and])
          | false =>
            have hdb : dealB o x = false := by simp [dealB, of_decide_eq_false hdd]
            repeat' (first | (simp only [onC_true, isStB_st, dl_len, css_noOwn, strs_noOwn, hfx, hf0, hf2, hf3, hx0, hx2, hx3, Int.toNat_natCast, htn, hs1, hs2, happ, hl1, hl2, ha, hdd, k1, k2, ↓wA, ↓wC, wB, frzBE, frzBS, reduceEqDiff, reduceAdd, reduceSub, reduceIte, reduceCtorEq, Nat.reduceBEq, reduceLT, sz35]) | (refine onJ_q ?_) | (with_reducible refine And.intro ?_ ?_) | (with_reducible refine onC_i ?_ ?_; focus omega) | (with_reducible refine onI_bare ?_ ?_; focus (simp only [InR]; omega)) | (refine call_det hG (congrArg (fun d : D => some [d]) hu) rfl ?_) | (refine callP_det hG (congrArg (fun d : D => some [d]) hu) rfl ?_) | ((first | apply execG_split | apply execC_split | apply onPick_split) <;> intro h <;> try simp only [h]))
            all_goals (refine onC_i rfl ?_; rw [hwE, hdb, Bool.false_and])
        · refine ⟨_, h, ?_⟩
          simp only [actA, List.cons_append, List.nil_append, ↓wA, ↓wC, wB, frzBE, frzBS, reduceEqDiff, reduceAdd, reduceSub, reduceIte, reduceCtorEq, Nat.reduceBEq, reduceLT, sz35]
          refine exec_gh1 (freeze 3 none [1] (x := .sl true 4 (dl Cs.s o.cs)) rfl rfl rfl) ?_
          simp only [obSet, offP, D.unown, css_unown, ↓wA, ↓wC, wB, frzBE, frzBS, reduceEqDiff, reduceAdd, reduceSub, reduceIte, reduceCtorEq, Nat.reduceBEq, reduceLT, sz35]
          cases hdd : decide (x.d ≤ o.day) with
          | true =>
            have hdb : dealB o x = true := by simp [dealB, of_decide_eq_true hdd, of_decide_eq_true k2]
            repeat' (first | (simp only [onC_true, isStB_st, dl_len, css_noOwn, strs_noOwn, hfx, hf0, hf2, hf3, hx0, hx2, hx3, Int.toNat_natCast, htn, hs1, hs2, happ, hl1, hl2, ha, hdd, k1, k2, ↓wA, ↓wC, wB, frzBE, frzBS, reduceEqDiff, reduceAdd, reduceSub, reduceIte, reduceCtorEq, Nat.reduceBEq, reduceLT, sz35]) | (refine onJ_q ?_) | (with_reducible refine And.intro ?_ ?_) | (with_reducible refine onC_i ?_ ?_; focus omega) | (with_reducible refine onI_bare ?_ ?_; focus (simp only [InR]; omega)) | (refine call_det hG (congrArg (fun d : D => some [d]) hu) rfl ?_) | (refine callP_det hG (congrArg (fun d : D => some [d]) hu) rfl ?_) | ((first | apply execG_split | apply execC_split | apply onPick_split) <;> intro h <;> try simp only [h]))
            all_goals (refine onC_i rfl ?_; rw [hwE, hdb, Bool.true_and])
          | false =>
            have hdb : dealB o x = false := by simp [dealB, of_decide_eq_false hdd]
            repeat' (first | (simp only [onC_true, isStB_st, dl_len, css_noOwn, strs_noOwn, hfx, hf0, hf2, hf3, hx0, hx2, hx3, Int.toNat_natCast, htn, hs1, hs2, happ, hl1, hl2, ha, hdd, k1, k2, ↓wA, ↓wC, wB, frzBE, frzBS, reduceEqDiff, reduceAdd, reduceSub, reduceIte, reduceCtorEq, Nat.reduceBEq, reduceLT, sz35]) | (refine onJ_q ?_) | (with_reducible refine And.intro ?_ ?_) | (with_reducible refine onC_i ?_ ?_; focus omega) | (with_reducible refine onI_bare ?_ ?_; focus (simp only [InR]; omega)) | (refine call_det hG (congrArg (fun d : D => some [d]) hu) rfl ?_) | (refine callP_det hG (congrArg (fun d : D => some [d]) hu) rfl ?_) | ((first | apply execG_split | apply execC_split | apply onPick_split) <;> intro h <;> try simp only [h]))
            all_goals (refine onC_i rfl ?_; rw [hwE, hdb, Bool.false_and])
        · refine ⟨_, h, ?_⟩
          simp only [actA, List.cons_append, List.nil_append, ↓wA, ↓wC, wB, frzBE, frzBS, reduceEqDiff, reduceAdd, reduceSub, reduceIte, reduceCtorEq, Nat.reduceBEq, reduceLT, sz35]
          refine exec_gh1 (freeze 4 none [1] (x := .sl true 4 (dl Cs.s o.cs)) rfl rfl rfl) ?_
          simp only [obSet, offP, D.unown, css_unown, ↓wA, ↓wC, wB, frzBE, frzBS, reduceEqDiff, reduceAdd, reduceSub, reduceIte, reduceCtorEq, Nat.reduceBEq, reduceLT, sz35]
          cases hdd : decide (x.d ≤ o.day) with
          | true =>
            have hdb : dealB o x = true := by simp [dealB, of_decide_eq_true hdd, of_decide_eq_true k2]
            repeat' (first | (simp only [onC_true, isStB_st, dl_len, css_noOwn, strs_noOwn, hfx, hf0, hf2, hf3, hx0, hx2, hx3, Int.toNat_natCast, htn, hs1, hs2, happ, hl1, hl2, ha, hdd, k1, k2, ↓wA, ↓wC, wB, frzBE, frzBS, reduceEqDiff, reduceAdd, reduceSub, reduceIte, reduceCtorEq, Nat.reduceBEq, reduceLT, sz35]) | (refine onJ_q ?_) | (with_reducible refine And.intro ?_ ?_) | (with_reducible refine onC_i ?_ ?_; focus omega) | (with_reducible refine onI_bare ?_ ?_; focus (simp only [InR]; omega)) | (refine call_det hG (congrArg (fun d : D => some [d]) hu) rfl ?_) | (refine callP_det hG (congrArg (fun d : D => some [d]) hu) rfl ?_) | ((first | apply execG_split | apply execC_split | apply onPick_split) <;> intro h <;> try simp only [h]))
            all_goals (refine onC_i rfl ?_; rw [hwE, hdb, Bool.true_and])
          | false =>
            have hdb : dealB o x = false := by simp [dealB, of_decide_eq_false hdd]
            repeat' (first | (simp only [onC_true, isStB_st, dl_len, css_noOwn, strs_noOwn, hfx, hf0, hf2, hf3, hx0, hx2, hx3, Int.toNat_natCast, htn, hs1, hs2, happ, hl1, hl2, ha, hdd, k1, k2, ↓wA, ↓wC, wB, frzBE, frzBS, reduceEqDiff, reduceAdd, reduceSub, reduceIte, reduceCtorEq, Nat.reduceBEq, reduceLT, sz35]) | (refine onJ_q ?_) | (with_reducible refine And.intro ?_ ?_) | (with_reducible refine onC_i ?_ ?_; focus omega) | (with_reducible refine onI_bare ?_ ?_; focus (simp only [InR]; omega)) | (refine call_det hG (congrArg (fun d : D => some [d]) hu) rfl ?_) | (refine callP_det hG (congrArg (fun d : D => some [d]) hu) rfl ?_) | ((first | apply execG_split | apply execC_split | apply onPick_split) <;> intro h <;> try simp only [h]))
            all_goals (refine onC_i rfl ?_; rw [hwE, hdb, Bool.false_and])
      | false =>
        have k2' := of_decide_eq_false k2
        have hxc := case_parts (hp.2.2.2.2.2.2.2.2.2 x (List.mem_of_getElem? hr))
        have hN1 := l1Num_fn x.i (by omega) (by simp only [InR]; omega)
        have hN2 := l1Num_fn o.day (by omega) (by simp only [InR]; omega)
        have hI1 := itoa_le x.i (by simp only [InR]; omega)
        have hI2 := itoa_le o.day (by simp only [InR]; omega)
        have hE : 114 :: (Lib.itoa x.i ++ 32 :: 100 :: Lib.itoa o.day) = entryT x.i o.day := rfl
        have hu : (D.st (.cons (.int .i64 o.day) (.cons (.sl true 4 (dl Cs.s (o.cs.eraseIdx i))) (.cons (.int .i64 o.kept) (.cons (.int .i64 o.moved) (.cons (.sl true 1 (dl D.str (o.led ++ [entryT x.i o.day]))) .nil)))))).unown = (outO o i x).s := by
          unfold outO
          rw [if_neg k1', if_neg k2']
          simp [Off.s, offP, D.unown, css_unown, strs_unown]
        have hwE : (D.st (.cons (.int .i64 o.day) (.cons (.sl true 4 (dl Cs.s (o.cs.eraseIdx i))) (.cons (.int .i64 o.kept) (.cons (.int .i64 o.moved) (.cons (.sl true 1 (dl D.str (o.led ++ [entryT x.i o.day]))) .nil)))))) = (outO o i x).w := by
          unfold outO
          rw [if_neg k1', if_neg k2']
          rfl
        rintro s' (h | h | h)
        · refine ⟨_, h, ?_⟩
          simp only [actA, List.cons_append, List.nil_append, ↓wA, ↓wC, wB, frzBE, frzBS, reduceEqDiff, reduceAdd, reduceSub, reduceIte, reduceCtorEq, Nat.reduceBEq, reduceLT, sz35]
          refine exec_gh1 (freeze 2 none [1] (x := .sl true 4 (dl Cs.s o.cs)) rfl rfl rfl) ?_
          simp only [obSet, offP, D.unown, css_unown, ↓wA, ↓wC, wB, frzBE, frzBS, reduceEqDiff, reduceAdd, reduceSub, reduceIte, reduceCtorEq, Nat.reduceBEq, reduceLT, sz35]
          repeat' (first | (simp only [onC_true, isStB_st, dl_len, css_noOwn, strs_noOwn, hfx, hf0, hf2, hf3, hx0, hx2, hx3, Int.toNat_natCast, htn, hs1, hs2, happ, hl1, hl2, k1, k2, ↓wA, ↓wC, wB, frzBE, frzBS, reduceEqDiff, reduceAdd, reduceSub, reduceIte, reduceCtorEq, Nat.reduceBEq, reduceLT, sz35]) | (refine onJ_q ?_) | (with_reducible refine onC_i ?_ ?_; focus omega) | (with_reducible refine onI_bare ?_ ?_; focus (simp only [InR]; omega)) | ((first | apply execG_split | apply execC_split | apply onPick_split) <;> intro h <;> try simp only [h]))
          refine exec_gh _ (unlink 2 none [4] (es := 1) (xs := dl D.str o.led) rfl rfl) fun v2 => ?_
          simp only [obSet, ↓wA, ↓wC, wB, frzBE, frzBS, reduceEqDiff, reduceAdd, reduceSub, reduceIte, reduceCtorEq, Nat.reduceBEq, reduceLT, sz35]
          have happ2 : (dl D.str o.led).app (D.cons (.str (entryT x.i o.day)) .nil) = dl D.str (o.led ++ [entryT x.i o.day]) := app_one (f := D.str) o.led _
          cases hdd : decide (x.d ≤ o.day) with
          | true =>
            have hdb : dealB o x = decide (x.h.length = 0) := by simp [dealB, of_decide_eq_true hdd, k1', k2']
            cases hh : decide ((x.h.length : Int) = 0) with
            | true =>
              have hdb2 : dealB o x = true := by rw [hdb]; have := of_decide_eq_true hh; exact decide_eq_true (by omega)
              repeat' (first | (simp only [onC_true, isStB_st, dl_len, css_noOwn, strs_noOwn, ints_noOwn, hfx, hf0, hf2, hf3, hx0, hx2, hx3, k1, k2, hdd, hh, hE, happ2, ↓wA, ↓wC, wB, frzBE, frzBS, reduceEqDiff, reduceAdd, reduceSub, reduceIte, reduceCtorEq, Nat.reduceBEq, reduceLT, sz35]) | (refine call_det (hN1) rfl rfl ?_) | (refine callP_det (hN1) rfl rfl ?_) | (refine call_det (hN2) rfl rfl ?_) | (refine callP_det (hN2) rfl rfl ?_) | (refine onJ_q ?_) | (with_reducible refine And.intro ?_ ?_) | (with_reducible refine onC_i ?_ ?_; focus omega) | (with_reducible refine onC_i ?_ ?_; focus (simp; done)) | (with_reducible refine onI_bare ?_ ?_; focus (simp only [InR]; omega)) | (refine call_det hG (congrArg (fun d : D => some [d]) hu) rfl ?_) | (refine callP_det hG (congrArg (fun d : D => some [d]) hu) rfl ?_) | ((first | apply execG_split | apply execC_split | apply onPick_split) <;> intro h <;> try simp only [h]))
              all_goals (refine onC_i rfl ?_; rw [hwE, hdb2, Bool.true_and])
            | false =>
              have hdb2 : dealB o x = false := by rw [hdb]; have := of_decide_eq_false hh; exact decide_eq_false (by omega)
              repeat' (first | (simp only [onC_true, isStB_st, dl_len, css_noOwn, strs_noOwn, ints_noOwn, hfx, hf0, hf2, hf3, hx0, hx2, hx3, k1, k2, hdd, hh, hE, happ2, ↓wA, ↓wC, wB, frzBE, frzBS, reduceEqDiff, reduceAdd, reduceSub, reduceIte, reduceCtorEq, Nat.reduceBEq, reduceLT, sz35]) | (refine call_det (hN1) rfl rfl ?_) | (refine callP_det (hN1) rfl rfl ?_) | (refine call_det (hN2) rfl rfl ?_) | (refine callP_det (hN2) rfl rfl ?_) | (refine onJ_q ?_) | (with_reducible refine And.intro ?_ ?_) | (with_reducible refine onC_i ?_ ?_; focus omega) | (with_reducible refine onC_i ?_ ?_; focus (simp; done)) | (with_reducible refine onI_bare ?_ ?_; focus (simp only [InR]; omega)) | (refine call_det hG (congrArg (fun d : D => some [d]) hu) rfl ?_) | (refine callP_det hG (congrArg (fun d : D => some [d]) hu) rfl ?_) | ((first | apply execG_split | apply execC_split | apply onPick_split) <;> intro h <;> try simp only [h]))
              all_goals (refine onC_i rfl ?_; rw [hwE, hdb2, Bool.false_and])
          | false =>
            have hdb2 : dealB o x = false := by simp [dealB, of_decide_eq_false hdd]
            repeat' (first | (simp only [onC_true, isStB_st, dl_len, css_noOwn, strs_noOwn, ints_noOwn, hfx, hf0, hf2, hf3, hx0, hx2, hx3, k1, k2, hdd, hE, happ2, ↓wA, ↓wC, wB, frzBE, frzBS, reduceEqDiff, reduceAdd, reduceSub, reduceIte, reduceCtorEq, Nat.reduceBEq, reduceLT, sz35]) | (refine call_det (hN1) rfl rfl ?_) | (refine callP_det (hN1) rfl rfl ?_) | (refine call_det (hN2) rfl rfl ?_) | (refine callP_det (hN2) rfl rfl ?_) | (refine onJ_q ?_) | (with_reducible refine And.intro ?_ ?_) | (with_reducible refine onC_i ?_ ?_; focus omega) | (with_reducible refine onC_i ?_ ?_; focus (simp; done)) | (with_reducible refine onI_bare ?_ ?_; focus (simp only [InR]; omega)) | (refine call_det hG (congrArg (fun d : D => some [d]) hu) rfl ?_) | (refine callP_det hG (congrArg (fun d : D => some [d]) hu) rfl ?_) | ((first | apply execG_split | apply execC_split | apply onPick_split) <;> intro h <;> try simp only [h]))
            all_goals (refine onC_i rfl ?_; rw [hwE, hdb2, Bool.false_and])
        · refine ⟨_, h, ?_⟩
          simp only [actA, List.cons_append, List.nil_append, ↓wA, ↓wC, wB, frzBE, frzBS, reduceEqDiff, reduceAdd, reduceSub, reduceIte, reduceCtorEq, Nat.reduceBEq, reduceLT, sz35]
          refine exec_gh1 (freeze 3 none [1] (x := .sl true 4 (dl Cs.s o.cs)) rfl rfl rfl) ?_
          simp only [obSet, offP, D.unown, css_unown, ↓wA, ↓wC, wB, frzBE, frzBS, reduceEqDiff, reduceAdd, reduceSub, reduceIte, reduceCtorEq, Nat.reduceBEq, reduceLT, sz35]
          repeat' (first | (simp only [onC_true, isStB_st, dl_len, css_noOwn, strs_noOwn, hfx, hf0, hf2, hf3, hx0, hx2, hx3, Int.toNat_natCast, htn, hs1, hs2, happ, hl1, hl2, k1, k2, ↓wA, ↓wC, wB, frzBE, frzBS, reduceEqDiff, reduceAdd, reduceSub, reduceIte, reduceCtorEq, Nat.reduceBEq, reduceLT, sz35]) | (refine onJ_q ?_) | (with_reducible refine onC_i ?_ ?_; focus omega) | (with_reducible refine onI_bare ?_ ?_; focus (simp only [InR]; omega)) | ((first | apply execG_split | apply execC_split | apply onPick_split) <;> intro h <;> try simp only [h]))
          refine exec_gh _ (unlink 3 none [4] (es := 1) (xs := dl D.str o.led) rfl rfl) fun v2 => ?_
          simp only [obSet, ↓wA, ↓wC, wB, frzBE, frzBS, reduceEqDiff, reduceAdd, reduceSub, reduceIte, reduceCtorEq, Nat.reduceBEq, reduceLT, sz35]
          have happ2 : (dl D.str o.led).app (D.cons (.str (entryT x.i o.day)) .nil) = dl D.str (o.led ++ [entryT x.i o.day]) := app_one (f := D.str) o.led _
          cases hdd : decide (x.d ≤ o.day) with
          | true =>
            have hdb : dealB o x = decide (x.h.length = 0) := by simp [dealB, of_decide_eq_true hdd, k1', k2']
            cases hh : decide ((x.h.length : Int) = 0) with
            | true =>
              have hdb2 : dealB o x = true := by rw [hdb]; have := of_decide_eq_true hh; exact decide_eq_true (by omega)
              repeat' (first | (simp only [onC_true, isStB_st, dl_len, css_noOwn, strs_noOwn, ints_noOwn, hfx, hf0, hf2, hf3, hx0, hx2, hx3, k1, k2, hdd, hh, hE, happ2, ↓wA, ↓wC, wB, frzBE, frzBS, reduceEqDiff, reduceAdd, reduceSub, reduceIte, reduceCtorEq, Nat.reduceBEq, reduceLT, sz35]) | (refine call_det (hN1) rfl rfl ?_) | (refine callP_det (hN1) rfl rfl ?_) | (refine call_det (hN2) rfl rfl ?_) | (refine callP_det (hN2) rfl rfl ?_) | (refine onJ_q ?_) | (with_reducible refine And.intro ?_ ?_) | (with_reducible refine onC_i ?_ ?_; focus omega) | (with_reducible refine onC_i ?_ ?_; focus (simp; done)) | (with_reducible refine onI_bare ?_ ?_; focus (simp only [InR]; omega)) | (refine call_det hG (congrArg (fun d : D => some [d]) hu) rfl ?_) | (refine callP_det hG (congrArg (fun d : D => some [d]) hu) rfl ?_) | ((first | apply execG_split | apply execC_split | apply onPick_split) <;> intro h <;> try simp only [h]))
              all_goals (refine onC_i rfl ?_; rw [hwE, hdb2, Bool.true_and])
            | false =>
              have hdb2 : dealB o x = false := by rw [hdb]; have := of_decide_eq_false hh; exact decide_eq_false (by omega)
              repeat' (first | (simp only [onC_true, isStB_st, dl_len, css_noOwn, strs_noOwn, ints_noOwn, hfx, hf0, hf2, hf3, hx0, hx2, hx3, k1, k2, hdd, hh, hE, happ2, ↓wA, ↓wC, wB, frzBE, frzBS, reduceEqDiff, reduceAdd, reduceSub, reduceIte, reduceCtorEq, Nat.reduceBEq, reduceLT, sz35]) | (refine call_det (hN1) rfl rfl ?_) | (refine callP_det (hN1) rfl rfl ?_) | (refine call_det (hN2) rfl rfl ?_) | (refine callP_det (hN2) rfl rfl ?_) | (refine onJ_q ?_) | (with_reducible refine And.intro ?_ ?_) | (with_reducible refine onC_i ?_ ?_; focus omega) | (with_reducible refine onC_i ?_ ?_; focus (simp; done)) | (with_reducible refine onI_bare ?_ ?_; focus (simp only [InR]; omega)) | (refine call_det hG (congrArg (fun d : D => some [d]) hu) rfl ?_) | (refine callP_det hG (congrArg (fun d : D => some [d]) hu) rfl ?_) | ((first | apply execG_split | apply execC_split | apply onPick_split) <;> intro h <;> try simp only [h]))
              all_goals (refine onC_i rfl ?_; rw [hwE, hdb2, Bool.false_and])
          | false =>
            have hdb2 : dealB o x = false := by simp [dealB, of_decide_eq_false hdd]
            repeat' (first | (simp only [onC_true, isStB_st, dl_len, css_noOwn, strs_noOwn, ints_noOwn, hfx, hf0, hf2, hf3, hx0, hx2, hx3, k1, k2, hdd, hE, happ2, ↓wA, ↓wC, wB, frzBE, frzBS, reduceEqDiff, reduceAdd, reduceSub, reduceIte, reduceCtorEq, Nat.reduceBEq, reduceLT, sz35]) | (refine call_det (hN1) rfl rfl ?_) | (refine callP_det (hN1) rfl rfl ?_) | (refine call_det (hN2) rfl rfl ?_) | (refine callP_det (hN2) rfl rfl ?_) | (refine onJ_q ?_) | (with_reducible refine And.intro ?_ ?_) | (with_reducible refine onC_i ?_ ?_; focus omega) | (with_reducible refine onC_i ?_ ?_; focus (simp; done)) | (with_reducible refine onI_bare ?_ ?_; focus (simp only [InR]; omega)) | (refine call_det hG (congrArg (fun d : D => some [d]) hu) rfl ?_) | (refine callP_det hG (congrArg (fun d : D => some [d]) hu) rfl ?_) | ((first | apply execG_split | apply execC_split | apply onPick_split) <;> intro h <;> try simp only [h]))
            all_goals (refine onC_i rfl ?_; rw [hwE, hdb2, Bool.false_and])
        · refine ⟨_, h, ?_⟩
          simp only [actA, List.cons_append, List.nil_append, ↓wA, ↓wC, wB, frzBE, frzBS, reduceEqDiff, reduceAdd, reduceSub, reduceIte, reduceCtorEq, Nat.reduceBEq, reduceLT, sz35]
          refine exec_gh1 (freeze 4 none [1] (x := .sl true 4 (dl Cs.s o.cs)) rfl rfl rfl) ?_
          simp only [obSet, offP, D.unown, css_unown, ↓wA, ↓wC, wB, frzBE, frzBS, reduceEqDiff, reduceAdd, reduceSub, reduceIte, reduceCtorEq, Nat.reduceBEq, reduceLT, sz35]
          repeat' (first | (simp only [onC_true, isStB_st, dl_len, css_noOwn, strs_noOwn, hfx, hf0, hf2, hf3, hx0, hx2, hx3, Int.toNat_natCast, htn, hs1, hs2, happ, hl1, hl2, k1, k2, ↓wA, ↓wC, wB, frzBE, frzBS, reduceEqDiff, reduceAdd, reduceSub, reduceIte, reduceCtorEq, Nat.reduceBEq, reduceLT, sz35]) | (refine onJ_q ?_) | (with_reducible refine onC_i ?_ ?_; focus omega) | (with_reducible refine onI_bare ?_ ?_; focus (simp only [InR]; omega)) | ((first | apply execG_split | apply execC_split | apply onPick_split) <;> intro h <;> try simp only [h]))
          refine exec_gh _ (unlink 4 none [4] (es := 1) (xs := dl D.str o.led) rfl rfl) fun v2 => ?_
          simp only [obSet, ↓wA, ↓wC, wB, frzBE, frzBS, reduceEqDiff, reduceAdd, reduceSub, reduceIte, reduceCtorEq, Nat.reduceBEq, reduceLT, sz35]
          have happ2 : (dl D.str o.led).app (D.cons (.str (entryT x.i o.day)) .nil) = dl D.str (o.led ++ [entryT x.i o.day]) := app_one (f := D.str) o.led _
          cases hdd : decide (x.d ≤ o.day) with
          | true =>
            have hdb : dealB o x = decide (x.h.length = 0) := by simp [dealB, of_decide_eq_true hdd, k1', k2']
            cases hh : decide ((x.h.length : Int) = 0) with
            | true =>
              have hdb2 : dealB o x = true := by rw [hdb]; have := of_decide_eq_true hh; exact decide_eq_true (by omega)
              repeat' (first | (simp only [onC_true, isStB_st, dl_len, css_noOwn, strs_noOwn, ints_noOwn, hfx, hf0, hf2, hf3, hx0, hx2, hx3, k1, k2, hdd, hh, hE, happ2, ↓wA, ↓wC, wB, frzBE, frzBS, reduceEqDiff, reduceAdd, reduceSub, reduceIte, reduceCtorEq, Nat.reduceBEq, reduceLT, sz35]) | (refine call_det (hN1) rfl rfl ?_) | (refine callP_det (hN1) rfl rfl ?_) | (refine call_det (hN2) rfl rfl ?_) | (refine callP_det (hN2) rfl rfl ?_) | (refine onJ_q ?_) | (with_reducible refine And.intro ?_ ?_) | (with_reducible refine onC_i ?_ ?_; focus omega) | (with_reducible refine onC_i ?_ ?_; focus (simp; done)) | (with_reducible refine onI_bare ?_ ?_; focus (simp only [InR]; omega)) | (refine call_det hG (congrArg (fun d : D => some [d]) hu) rfl ?_) | (refine callP_det hG (congrArg (fun d : D => some [d]) hu) rfl ?_) | ((first | apply execG_split | apply execC_split | apply onPick_split) <;> intro h <;> try simp only [h]))
              all_goals (refine onC_i rfl ?_; rw [hwE, hdb2, Bool.true_and])
            | false =>
              have hdb2 : dealB o x = false := by rw [hdb]; have := of_decide_eq_false hh; exact decide_eq_false (by omega)
              repeat' (first | (simp only [onC_true, isStB_st, dl_len, css_noOwn, strs_noOwn, ints_noOwn, hfx, hf0, hf2, hf3, hx0, hx2, hx3, k1, k2, hdd, hh, hE, happ2, ↓wA, ↓wC, wB, frzBE, frzBS, reduceEqDiff, reduceAdd, reduceSub, reduceIte, reduceCtorEq, Nat.reduceBEq, reduceLT, sz35]) | (refine call_det (hN1) rfl rfl ?_) | (refine callP_det (hN1) rfl rfl ?_) | (refine call_det (hN2) rfl rfl ?_) | (refine callP_det (hN2) rfl rfl ?_) | (refine onJ_q ?_) | (with_reducible refine And.intro ?_ ?_) | (with_reducible refine onC_i ?_ ?_; focus omega) | (with_reducible refine onC_i ?_ ?_; focus (simp; done)) | (with_reducible refine onI_bare ?_ ?_; focus (simp only [InR]; omega)) | (refine call_det hG (congrArg (fun d : D => some [d]) hu) rfl ?_) | (refine callP_det hG (congrArg (fun d : D => some [d]) hu) rfl ?_) | ((first | apply execG_split | apply execC_split | apply onPick_split) <;> intro h <;> try simp only [h]))
              all_goals (refine onC_i rfl ?_; rw [hwE, hdb2, Bool.false_and])
          | false =>
            have hdb2 : dealB o x = false := by simp [dealB, of_decide_eq_false hdd]
            repeat' (first | (simp only [onC_true, isStB_st, dl_len, css_noOwn, strs_noOwn, ints_noOwn, hfx, hf0, hf2, hf3, hx0, hx2, hx3, k1, k2, hdd, hE, happ2, ↓wA, ↓wC, wB, frzBE, frzBS, reduceEqDiff, reduceAdd, reduceSub, reduceIte, reduceCtorEq, Nat.reduceBEq, reduceLT, sz35]) | (refine call_det (hN1) rfl rfl ?_) | (refine callP_det (hN1) rfl rfl ?_) | (refine call_det (hN2) rfl rfl ?_) | (refine callP_det (hN2) rfl rfl ?_) | (refine onJ_q ?_) | (with_reducible refine And.intro ?_ ?_) | (with_reducible refine onC_i ?_ ?_; focus omega) | (with_reducible refine onC_i ?_ ?_; focus (simp; done)) | (with_reducible refine onI_bare ?_ ?_; focus (simp only [InR]; omega)) | (refine call_det hG (congrArg (fun d : D => some [d]) hu) rfl ?_) | (refine callP_det hG (congrArg (fun d : D => some [d]) hu) rfl ?_) | ((first | apply execG_split | apply execC_split | apply onPick_split) <;> intro h <;> try simp only [h]))
            all_goals (refine onC_i rfl ?_; rw [hwE, hdb2, Bool.false_and])
end Go.Pe.Tryz
