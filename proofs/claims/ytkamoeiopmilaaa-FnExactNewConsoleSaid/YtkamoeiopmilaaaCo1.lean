/- The law of NewConsole, walked. -/
import Derived.Test.YtkamoeiopmilaaaOf1
set_option maxRecDepth 100000
set_option maxHeartbeats 4000000
set_option linter.all false
namespace Go.Pe.Try
open Go.Proofs.Try
def newC (b : Bool) (n : Int) : D := .st (.cons (newD b n) (.cons (.st (.cons (.str []) (.cons (.str []) (.cons (.int .i64 0) .nil)))) .nil))
def newCR (b : Bool) (n : Int) : List D := if within n 0 20000 = true then [newC false n, .bool true] else [newC b 0, .bool false]
theorem newConsole_fn (n : Int) : Fn prog 9 [.int .i64 n] (fun rs => rs = newCR false n) := by
  have hO := newOffice_fn n
  unfold newR at hO
  refine Fn_of' (fn := f9) (by exact func9) c9 r9 (n := 14) (by rfl) (rv := [.cell 2 29, .tmp 3]) (by rfl) (by simp) ?_
  unfold m9
  try simp only [↓wA, ↓wC, wB, Nat.reduceEqDiff, Nat.reduceAdd, Nat.reduceSub, reduceIte, reduceCtorEq, Nat.reduceBEq, Nat.reduceLT, decide_true, sz29]
  cases h : within n 0 20000 <;> simp only [h, if_true, if_false, Bool.false_eq_true, newD] at hO <;> replace hO := Fn_unown hO <;> simp only [List.map_cons, List.map_nil, D.unown] at hO
  · refine call_det hO rfl rfl ?_
    simp only [↓wA, ↓wC, wB, Nat.reduceEqDiff, Nat.reduceAdd, Nat.reduceSub, reduceIte, reduceCtorEq, Nat.reduceBEq, Nat.reduceLT, decide_true, sz29]
    simp [newCR, newC, newD, h]
  · refine call_det hO rfl rfl ?_
    simp only [↓wA, ↓wC, wB, Nat.reduceEqDiff, Nat.reduceAdd, Nat.reduceSub, reduceIte, reduceCtorEq, Nat.reduceBEq, Nat.reduceLT, decide_true, sz29]
    simp [newCR, newC, newD, h]
theorem specNewConsole_fn (n : Int) : Fn prog 8 [.int .i64 n] (fun rs => rs = newCR true n) := by
  have hO := specNewOffice_fn n
  unfold newR at hO
  refine Fn_of' (fn := f8) (by exact func8) c8 r8 (n := 16) (by rfl) (rv := [.cell 2 29, .tmp 3]) (by rfl) (by simp) ?_
  unfold m8
  try simp only [↓wA, ↓wC, wB, Nat.reduceEqDiff, Nat.reduceAdd, Nat.reduceSub, reduceIte, reduceCtorEq, Nat.reduceBEq, Nat.reduceLT, decide_true, sz29]
  cases h : within n 0 20000 <;> simp only [h, if_true, if_false, Bool.false_eq_true, newD] at hO <;> replace hO := Fn_unown hO <;> simp only [List.map_cons, List.map_nil, D.unown] at hO
  · refine call_det hO rfl rfl ?_
    simp only [↓wA, ↓wC, wB, Nat.reduceEqDiff, Nat.reduceAdd, Nat.reduceSub, reduceIte, reduceCtorEq, Nat.reduceBEq, Nat.reduceLT, decide_true, sz29]
    simp [newCR, newC, newD, h]
  · refine call_det hO rfl rfl ?_
    simp only [↓wA, ↓wC, wB, Nat.reduceEqDiff, Nat.reduceAdd, Nat.reduceSub, reduceIte, reduceCtorEq, Nat.reduceBEq, Nat.reduceLT, decide_true, sz29]
    simp [newCR, newC, newD, h]
theorem eqLog_nil : Fn prog 31 [.st (.cons (.str []) (.cons (.str []) (.cons (.int .i64 0) .nil))), .st (.cons (.str []) (.cons (.str []) (.cons (.int .i64 0) .nil)))] (fun rs => rs = [.bool true]) := by
  refine Fn_of' (fn := f31) (by exact func31) c31 r31 (n := 20) (by rfl) (rv := [.tmp 4]) (by rfl) (by simp) ?_
  unfold m31
  repeat' (first
      | (simp only [↓wA, ↓wC, wB, Nat.reduceEqDiff, Nat.reduceAdd, Nat.reduceSub, reduceIte, reduceCtorEq, Nat.reduceBEq, Nat.reduceLT, decide_true, sz29])
      | (refine execG_split (fun h => ?_) (fun h => ?_) <;> simp only [h])
      | (refine execC_split (fun h => ?_) (fun h => ?_) <;> (try simp only [h]))
      | (refine onPick_split (fun h => ?_) (fun h => ?_) <;> (try simp only [h])))
  all_goals simp_all
theorem eqConsole_new (n : Int) : Fn prog 10 [newC false n, newC false n] (fun rs => rs = [.bool true]) := by
  have hE := eqOffice_new n
  simp only [newD] at hE
  refine Fn_of' (fn := f10) (by exact func10) c10 r10 (n := 17) (by rfl) (rv := [.tmp 4]) (by rfl) (by simp) ?_
  unfold m10
  simp only [newC, newD]
  repeat' (first
      | (simp only [↓wA, ↓wC, wB, Nat.reduceEqDiff, Nat.reduceAdd, Nat.reduceSub, reduceIte, reduceCtorEq, Nat.reduceBEq, Nat.reduceLT, decide_true, sz29])
      | (refine call_det hE rfl rfl ?_)
      | (refine call_det eqLog_nil rfl rfl ?_)
      | (refine execG_split (fun h => ?_) (fun h => ?_) <;> simp only [h])
      | (refine execC_split (fun h => ?_) (fun h => ?_) <;> (try simp only [h]))
      | (refine onPick_split (fun h => ?_) (fun h => ?_) <;> (try simp only [h])))
  all_goals simp_all
theorem markConsole_new (n : Int) : Fn prog 11 [newC false n, .int .i64 1] (fun rs => rs = [.int .i64 1]) := by
  have hM := markOffice_new n
  simp only [newD] at hM
  refine Fn_of' (fn := f11) (by exact func11) c11 r11 (n := 10) (by rfl) (rv := [.tmp 4]) (by rfl) (by simp) ?_
  unfold m11
  simp only [newC, newD]
  repeat' (first
      | (simp only [↓wA, ↓wC, wB, Nat.reduceEqDiff, Nat.reduceAdd, Nat.reduceSub, reduceIte, reduceCtorEq, Nat.reduceBEq, Nat.reduceLT, decide_true, sz29])
      | (refine call_det hM rfl rfl ?_)
      | (refine execG_split (fun h => ?_) (fun h => ?_) <;> simp only [h])
      | (refine execC_split (fun h => ?_) (fun h => ?_) <;> (try simp only [h]))
      | (refine onPick_split (fun h => ?_) (fun h => ?_) <;> (try simp only [h])))
theorem heldConsole_new (n : Int) : Fn prog 12 [newC false n, .int .i64 1] (fun rs => rs = [.int .i64 1]) := by
  have hH := heldOffice_new n
  simp only [newD] at hH
  refine Fn_of' (fn := f12) (by exact func12) c12 r12 (n := 12) (by rfl) (rv := [.tmp 4]) (by rfl) (by simp) ?_
  unfold m12
  simp only [newC, newD]
  repeat' (first
      | (simp only [h10, ↓wA, ↓wC, wB, Nat.reduceEqDiff, Nat.reduceAdd, Nat.reduceSub, reduceIte, reduceCtorEq, Nat.reduceBEq, Nat.reduceLT, decide_true, sz29])
      | (refine call_det hH rfl rfl ?_)
      | (refine execG_split (fun h => ?_) (fun h => ?_) <;> simp only [h])
      | (refine execC_split (fun h => ?_) (fun h => ?_) <;> (try simp only [h]))
      | (refine onPick_split (fun h => ?_) (fun h => ?_) <;> (try simp only [h])))
theorem lawCon_of (n m : Int) (b : Bool) (hS : Fn prog 8 [.int .i64 n] (fun rs => rs = [newC false m, .bool b])) (hI : Fn prog 9 [.int .i64 n] (fun rs => rs = [newC false m, .bool b])) : Fn prog 3 [.int .i64 n] (fun rs => rs = [.bool true]) := by
  have hE := eqConsole_new m
  have hM := markConsole_new m
  have hH := heldConsole_new m
  simp only [newC, newD] at hS hI hE hM hH
  refine Fn_of' (fn := f3) (by exact func3) c3 r3 (n := 63) (by rfl) (rv := [.tmp 2]) (by rfl) (by simp) ?_
  unfold m3
  try simp only [↓wA, ↓wC, wB, Nat.reduceEqDiff, Nat.reduceAdd, Nat.reduceSub, reduceIte, reduceCtorEq, Nat.reduceBEq, Nat.reduceLT, decide_true, sz29]
  refine call_det hS rfl rfl ?_
  try simp only [↓wA, ↓wC, wB, Nat.reduceEqDiff, Nat.reduceAdd, Nat.reduceSub, reduceIte, reduceCtorEq, Nat.reduceBEq, Nat.reduceLT, decide_true, sz29]
  refine call_det hI rfl rfl ?_
  repeat' (first
      | (simp only [h10, ↓wA, ↓wC, wB, Nat.reduceEqDiff, Nat.reduceAdd, Nat.reduceSub, reduceIte, reduceCtorEq, Nat.reduceBEq, Nat.reduceLT, decide_true, sz29])
      | (refine call_det hI rfl rfl ?_)
      | (refine call_det hE rfl rfl ?_)
      | (refine call_det hM rfl rfl ?_)
      | (refine call_det hH rfl rfl ?_)
      | (refine execG_split (fun h => ?_) (fun h => ?_) <;> simp only [h])
      | (refine execC_split (fun h => ?_) (fun h => ?_) <;> (try simp only [h]))
      | (refine onPick_split (fun h => ?_) (fun h => ?_) <;> (try simp only [h])))
  all_goals simp_all
theorem lawCon_fn (n : Int) : Fn prog 3 [.int .i64 n] (fun rs => rs = [.bool true]) := by
  have hS := specNewConsole_fn n
  have hI := newConsole_fn n
  unfold newCR at hS hI
  split at hS <;> rename_i h <;> simp only [h, if_true, if_false] at hI
  · exact lawCon_of n _ _ (Fn_unown hS) (Fn_unown hI)
  · exact lawCon_of n _ _ (Fn_unown hS) (Fn_unown hI)
theorem lawCon (x0 : D) (h0 : Typed (.int .i64) x0) : Fn prog 3 [x0] (fun rs => rs = [.bool true]) := by
  obtain ⟨n, rfl, _⟩ := h0
  exact lawCon_fn n
end Go.Pe.Try
