/- The line of a year, walked. -/
import Derived.Test.YtepedloehigedaaDoorYr4
import Derived.Test.YtepedloehigedaaDoorNm1
set_option maxRecDepth 100000
set_option maxHeartbeats 4000000
set_option linter.all false
namespace Go.Pe.Tryd
open Go.Proofs.Tryd
def ylB (r : Row) : List UInt8 := Lib.itoa r.y ++ 58 :: 32 :: 43 :: (Lib.itoa r.m ++ 32 :: 45 :: Lib.itoa r.gone)
def ylX (r : Row) : List UInt8 := 32 :: 40 :: (Lib.itoa r.x ++ [32, 100, 101, 115, 116, 114, 111, 121, 101, 100, 41])
def yl (r : Row) : List UInt8 := if 0 < r.x then ylB r ++ ylX r else ylB r
theorem small_InR {n : Int} (h0 : 0 ≤ n) (h1 : n ≤ 1000000000) : InR .i64 n := by simp only [InR]; omega
theorem small_len {n : Int} (h0 : 0 ≤ n) (h1 : n ≤ 1000000000) : (Lib.itoa n).length ≤ 21 := itoa_le n (small_InR h0 h1)
theorem yearLine_fn (r : Row) (h : r.ok = true) : Fn prog 28 [r.d] (fun rs => rs = [.str (yl r)]) := by
  have hb := ok_bounds h
  have hg : r.gone = r.k + r.x + r.g := rfl
  have l1 := small_len (n := r.y) (by omega) (by omega)
  have l2 := small_len (n := r.m) (by omega) (by omega)
  have l3 := small_len (n := r.gone) (by omega) (by omega)
  have l4 := small_len (n := r.x) (by omega) (by omega)
  have hgo := gone_fn r h
  have d1 := decimal_fn r.y (small_InR (by omega) (by omega))
  have d2 := decimal_fn r.m (small_InR (by omega) (by omega))
  have d3 := decimal_fn r.gone (small_InR (by omega) (by omega))
  have d4 := decimal_fn r.x (small_InR (by omega) (by omega))
  by_cases hx : 0 < r.x
  · have hd : decide (0 < r.x) = true := decide_eq_true hx
    have hd' : decide (r.x > 0) = true := decide_eq_true hx
    refine Fn_of' (fn := f28) (by exact func28) c28 r28 (n := 28) (by rfl) (rv := [.tmp 2]) (by rfl) (by simp) ?_
    unfold m28
    simp only [Row.d] at hgo ⊢
    repeat' (first
        | (simp only [hd, hd', ↓wA, ↓wC, wB, Nat.reduceEqDiff, Nat.reduceAdd, Nat.reduceSub, reduceIte, reduceCtorEq, Nat.reduceBEq, Nat.reduceLT, decide_true])
        | (refine callP_det d1 rfl rfl ?_)
        | (refine callP_det d2 rfl rfl ?_)
        | (refine callP_det hgo rfl rfl ?_)
        | (refine callP_det d3 rfl rfl ?_)
        | (refine callP_det d4 rfl rfl ?_)
        | (refine call_det d1 rfl rfl ?_)
        | (refine call_det d2 rfl rfl ?_)
        | (refine call_det hgo rfl rfl ?_)
        | (refine call_det d3 rfl rfl ?_)
        | (refine call_det d4 rfl rfl ?_)
        | (refine onC_i (by (try simp only [List.length_append, List.length_cons, List.length_nil]); omega) ?_)
        | (refine execG_split (fun h => ?_) (fun h => ?_) <;> simp only [h])
        | (refine execC_split (fun h => ?_) (fun h => ?_) <;> (try simp only [h]))
        | (refine onPick_split (fun h => ?_) (fun h => ?_) <;> (try simp only [h])))
    all_goals simp [yl, ylB, ylX, hx]
  · have hd : decide (0 < r.x) = false := decide_eq_false hx
    have hd' : decide (r.x > 0) = false := decide_eq_false hx
    refine Fn_of' (fn := f28) (by exact func28) c28 r28 (n := 28) (by rfl) (rv := [.tmp 2]) (by rfl) (by simp) ?_
    unfold m28
    simp only [Row.d] at hgo ⊢
    repeat' (first
        | (simp only [hd, hd', ↓wA, ↓wC, wB, Nat.reduceEqDiff, Nat.reduceAdd, Nat.reduceSub, reduceIte, reduceCtorEq, Nat.reduceBEq, Nat.reduceLT, decide_true])
        | (refine callP_det d1 rfl rfl ?_)
        | (refine callP_det d2 rfl rfl ?_)
        | (refine callP_det hgo rfl rfl ?_)
        | (refine callP_det d3 rfl rfl ?_)
        | (refine call_det d1 rfl rfl ?_)
        | (refine call_det d2 rfl rfl ?_)
        | (refine call_det hgo rfl rfl ?_)
        | (refine call_det d3 rfl rfl ?_)
        | (refine onC_i (by (try simp only [List.length_append, List.length_cons, List.length_nil]); omega) ?_)
        | (refine execG_split (fun h => ?_) (fun h => ?_) <;> simp only [h])
        | (refine execC_split (fun h => ?_) (fun h => ?_) <;> (try simp only [h]))
        | (refine onPick_split (fun h => ?_) (fun h => ?_) <;> (try simp only [h])))
    all_goals simp [yl, ylB, ylX, hx]
theorem l26Line_fn (r : Row) (h : r.ok = true) : Fn prog 27 [r.d] (fun rs => rs = [.str (yl r)]) := by
  have hb := ok_bounds h
  have hg : r.gone = r.k + r.x + r.g := rfl
  have l1 := small_len (n := r.y) (by omega) (by omega)
  have l2 := small_len (n := r.m) (by omega) (by omega)
  have l3 := small_len (n := r.gone) (by omega) (by omega)
  have l4 := small_len (n := r.x) (by omega) (by omega)
  have hgo := l26Gone_fn r h
  have d1 := l1Num_fn r.y (by omega) (small_InR (by omega) (by omega))
  have d2 := l1Num_fn r.m (by omega) (small_InR (by omega) (by omega))
  have d3 := l1Num_fn r.gone (by omega) (small_InR (by omega) (by omega))
  have d4 := l1Num_fn r.x (by omega) (small_InR (by omega) (by omega))
  by_cases hx : 0 < r.x
  · have hd : decide (0 < r.x) = true := decide_eq_true hx
    have hd' : decide (r.x > 0) = true := decide_eq_true hx
    refine Fn_of' (fn := f27) (by exact func27) c27 r27 (n := 28) (by rfl) (rv := [.tmp 2]) (by rfl) (by simp) ?_
    unfold m27
    simp only [Row.d] at hgo ⊢
    repeat' (first
        | (simp only [hd, hd', ↓wA, ↓wC, wB, Nat.reduceEqDiff, Nat.reduceAdd, Nat.reduceSub, reduceIte, reduceCtorEq, Nat.reduceBEq, Nat.reduceLT, decide_true])
        | (refine callP_det d1 rfl rfl ?_)
        | (refine callP_det d2 rfl rfl ?_)
        | (refine callP_det hgo rfl rfl ?_)
        | (refine callP_det d3 rfl rfl ?_)
        | (refine callP_det d4 rfl rfl ?_)
        | (refine call_det d1 rfl rfl ?_)
        | (refine call_det d2 rfl rfl ?_)
        | (refine call_det hgo rfl rfl ?_)
        | (refine call_det d3 rfl rfl ?_)
        | (refine call_det d4 rfl rfl ?_)
        | (refine onC_i (by (try simp only [List.length_append, List.length_cons, List.length_nil]); omega) ?_)
        | (refine execG_split (fun h => ?_) (fun h => ?_) <;> simp only [h])
        | (refine execC_split (fun h => ?_) (fun h => ?_) <;> (try simp only [h]))
        | (refine onPick_split (fun h => ?_) (fun h => ?_) <;> (try simp only [h])))
    all_goals simp [yl, ylB, ylX, hx]
  · have hd : decide (0 < r.x) = false := decide_eq_false hx
    have hd' : decide (r.x > 0) = false := decide_eq_false hx
    refine Fn_of' (fn := f27) (by exact func27) c27 r27 (n := 28) (by rfl) (rv := [.tmp 2]) (by rfl) (by simp) ?_
    unfold m27
    simp only [Row.d] at hgo ⊢
    repeat' (first
        | (simp only [hd, hd', ↓wA, ↓wC, wB, Nat.reduceEqDiff, Nat.reduceAdd, Nat.reduceSub, reduceIte, reduceCtorEq, Nat.reduceBEq, Nat.reduceLT, decide_true])
        | (refine callP_det d1 rfl rfl ?_)
        | (refine callP_det d2 rfl rfl ?_)
        | (refine callP_det hgo rfl rfl ?_)
        | (refine callP_det d3 rfl rfl ?_)
        | (refine call_det d1 rfl rfl ?_)
        | (refine call_det d2 rfl rfl ?_)
        | (refine call_det hgo rfl rfl ?_)
        | (refine call_det d3 rfl rfl ?_)
        | (refine onC_i (by (try simp only [List.length_append, List.length_cons, List.length_nil]); omega) ?_)
        | (refine execG_split (fun h => ?_) (fun h => ?_) <;> simp only [h])
        | (refine execC_split (fun h => ?_) (fun h => ?_) <;> (try simp only [h]))
        | (refine onPick_split (fun h => ?_) (fun h => ?_) <;> (try simp only [h])))
    all_goals simp [yl, ylB, ylX, hx]
def ylR (r : Row) : List D := if r.ok = true then [.str (yl r), .bool true] else [.str [], .bool false]
theorem implYearLine_fn (r : Row) : Fn prog 9 [r.d] (fun rs => rs = ylR r) := by
  have ho := isYearRow_fn r
  cases h : r.ok with
  | true =>
    rw [h] at ho
    have hl := yearLine_fn r h
    refine Fn_of' (fn := f9) (by exact func9) c9 r9 (n := 9) (by rfl) (rv := [.tmp 2, .tmp 3]) (by rfl) (by simp) ?_
    unfold m9
    simp only [Row.d] at ho hl ⊢
    repeat' (first
        | (simp only [↓wA, ↓wC, wB, Nat.reduceEqDiff, Nat.reduceAdd, Nat.reduceSub, reduceIte, reduceCtorEq, Nat.reduceBEq, Nat.reduceLT, decide_true])
        | (refine call_det ho rfl rfl ?_)
        | (refine call_det hl rfl rfl ?_)
        | (refine execG_split (fun h => ?_) (fun h => ?_) <;> simp only [h])
        | (refine execC_split (fun h => ?_) (fun h => ?_) <;> (try simp only [h]))
        | (refine onPick_split (fun h => ?_) (fun h => ?_) <;> (try simp only [h])))
    all_goals simp [ylR, h]
  | false =>
    rw [h] at ho
    refine Fn_of' (fn := f9) (by exact func9) c9 r9 (n := 9) (by rfl) (rv := [.tmp 2, .tmp 3]) (by rfl) (by simp) ?_
    unfold m9
    simp only [Row.d] at ho ⊢
    repeat' (first
        | (simp only [↓wA, ↓wC, wB, Nat.reduceEqDiff, Nat.reduceAdd, Nat.reduceSub, reduceIte, reduceCtorEq, Nat.reduceBEq, Nat.reduceLT, decide_true])
        | (refine call_det ho rfl rfl ?_)
        | (refine execG_split (fun h => ?_) (fun h => ?_) <;> simp only [h])
        | (refine execC_split (fun h => ?_) (fun h => ?_) <;> (try simp only [h]))
        | (refine onPick_split (fun h => ?_) (fun h => ?_) <;> (try simp only [h])))
    all_goals simp [ylR, h]
theorem specYearLine_fn (r : Row) : Fn prog 7 [r.d] (fun rs => rs = ylR r) := by
  have ho := l26One_fn r
  cases h : r.ok with
  | true =>
    rw [h] at ho
    have hl := l26Line_fn r h
    refine Fn_of' (fn := f7) (by exact func7) c7 r7 (n := 9) (by rfl) (rv := [.tmp 2, .tmp 3]) (by rfl) (by simp) ?_
    unfold m7
    simp only [Row.d] at ho hl ⊢
    repeat' (first
        | (simp only [↓wA, ↓wC, wB, Nat.reduceEqDiff, Nat.reduceAdd, Nat.reduceSub, reduceIte, reduceCtorEq, Nat.reduceBEq, Nat.reduceLT, decide_true])
        | (refine call_det ho rfl rfl ?_)
        | (refine call_det hl rfl rfl ?_)
        | (refine execG_split (fun h => ?_) (fun h => ?_) <;> simp only [h])
        | (refine execC_split (fun h => ?_) (fun h => ?_) <;> (try simp only [h]))
        | (refine onPick_split (fun h => ?_) (fun h => ?_) <;> (try simp only [h])))
    all_goals simp [ylR, h]
  | false =>
    rw [h] at ho
    refine Fn_of' (fn := f7) (by exact func7) c7 r7 (n := 9) (by rfl) (rv := [.tmp 2, .tmp 3]) (by rfl) (by simp) ?_
    unfold m7
    simp only [Row.d] at ho ⊢
    repeat' (first
        | (simp only [↓wA, ↓wC, wB, Nat.reduceEqDiff, Nat.reduceAdd, Nat.reduceSub, reduceIte, reduceCtorEq, Nat.reduceBEq, Nat.reduceLT, decide_true])
        | (refine call_det ho rfl rfl ?_)
        | (refine execG_split (fun h => ?_) (fun h => ?_) <;> simp only [h])
        | (refine execC_split (fun h => ?_) (fun h => ?_) <;> (try simp only [h]))
        | (refine onPick_split (fun h => ?_) (fun h => ?_) <;> (try simp only [h])))
    all_goals simp [ylR, h]
theorem lawYl_fn (r : Row) : Fn prog 3 [r.d] (fun rs => rs = [.bool true]) := by
  have hS := specYearLine_fn r
  have hI := implYearLine_fn r
  have key : ∀ (a : List UInt8) (b : Bool), Fn prog 7 [r.d] (fun rs => rs = [.str a, .bool b]) → Fn prog 9 [r.d] (fun rs => rs = [.str a, .bool b]) → Fn prog 3 [r.d] (fun rs => rs = [.bool true]) := by
    intro a b hS hI
    have ht := toYearRow_fn r
    refine Fn_of' (fn := f3) (by exact func3) c3 r3 (n := 27) (by rfl) (rv := [.tmp 2]) (by rfl) (by simp) ?_
    unfold m3
    simp only [Row.d] at hS hI ht ⊢
    repeat' (first
        | (simp only [↓wA, ↓wC, wB, Nat.reduceEqDiff, Nat.reduceAdd, Nat.reduceSub, reduceIte, reduceCtorEq, Nat.reduceBEq, Nat.reduceLT, decide_true])
        | (refine call_det ht rfl rfl ?_)
        | (refine call_det hS rfl rfl ?_)
        | (refine call_det hI rfl rfl ?_)
        | (refine execG_split (fun h => ?_) (fun h => ?_) <;> simp only [h])
        | (refine execC_split (fun h => ?_) (fun h => ?_) <;> (try simp only [h]))
        | (refine onPick_split (fun h => ?_) (fun h => ?_) <;> (try simp only [h])))
    all_goals simp_all
  unfold ylR at hS hI
  split at hS
  · rename_i h
    rw [if_pos h] at hI
    exact key _ _ hS hI
  · rename_i h
    rw [if_neg h] at hI
    exact key _ _ hS hI
theorem lawYl (x0 : D) (h0 : Typed rowSh x0) : Fn prog 3 [x0] (fun rs => rs = [.bool true]) := by
  obtain ⟨r, rfl, _⟩ := row_of x0 h0
  exact lawYl_fn r
end Go.Pe.Tryd
