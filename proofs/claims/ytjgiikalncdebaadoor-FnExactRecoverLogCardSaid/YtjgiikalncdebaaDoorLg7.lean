/- What a valid log is; the laws of RecoverLog, IsValidLog, SyncLog. -/
import Derived.Test.YtjgiikalncdebaaDoorW1
set_option maxRecDepth 100000
set_option maxHeartbeats 4000000
set_option linter.all false
namespace Go.Pe.Tryd
open Go.Proofs.Tryd Go.Sort
def logD (d p : List UInt8) (c : Int) : D := .st (.cons (.str d) (.cons (.str p) (.cons (.int .i64 c) .nil)))
theorem eqLog_fn (d p : List UInt8) (c : Int) : Fn prog 10 [logD d p c, logD d p c] (fun rs => rs = [.bool true]) := by
  refine Fn_of' (fn := f10) (by exact func10) c10 r10 (n := 20) (by rfl) (rv := [.tmp 4]) (by rfl) (by simp) ?_
  unfold m10
  simp only [logD]
  repeat' (first
      | (simp only [decide_true, ↓wA, ↓wC, wB, frzBE, frzBS, Nat.reduceEqDiff, Nat.reduceAdd, Nat.reduceSub, reduceIte, reduceCtorEq, Nat.reduceBEq, Nat.reduceLT, decide_true, sz23])
      | (refine execG_split (fun h => ?_) (fun h => ?_) <;> simp only [h])
      | (refine execC_split (fun h => ?_) (fun h => ?_) <;> (try simp only [h]))
      | (refine onPick_split (fun h => ?_) (fun h => ?_) <;> (try simp only [h])))
/-- a log recovered from bytes. -/
def recov (s : List UInt8) : List D := if s.length ≤ 30000 then [logD (s.take (opens 60 0 s).2) [] ((opens 60 0 s).1.length : Nat), .int .i64 ((opens 60 0 s).2 : Nat), .bool true] else [logD [] [] 0, .int .i64 0, .bool false]
theorem implRecover_fn (s : List UInt8) (hl : s.length ≤ 100000000) : Fn prog 9 [.str s] (fun rs => rs = recov s) := by
  have hE := opens_le 60 0 s
  by_cases h : s.length ≤ 30000
  · have hR := readRecords_fn s hl
    have hd : decide ((s.length : Int) > 30000) = false := decide_eq_false (by omega)
    have hd' : decide ((30000 : Int) < (s.length : Int)) = false := decide_eq_false (by omega)
    unfold recov
    rw [if_pos h]
    refine Fn_of' (fn := f9) (by exact func9) c9 r9 (n := 23) (by rfl) (rv := [.cell 2 23, .tmp 3, .tmp 4]) (by rfl) (by simp) ?_
    unfold m9
    simp only [logD]
    repeat' (first
        | (simp only [hd, hd', dl_len, onC_true, Int.toNat_natCast, ↓wA, ↓wC, wB, frzBE, frzBS, Nat.reduceEqDiff, Nat.reduceAdd, Nat.reduceSub, reduceIte, reduceCtorEq, Nat.reduceBEq, Nat.reduceLT, decide_true, sz23])
        | (refine call_det (hR) rfl rfl ?_)
        | (refine callP_det (hR) rfl rfl ?_)
        | (with_reducible refine onC_i ?_ ?_; focus omega)
        | (refine execG_split (fun h => ?_) (fun h => ?_) <;> simp only [h])
        | (refine execC_split (fun h => ?_) (fun h => ?_) <;> (try simp only [h]))
        | (refine onPick_split (fun h => ?_) (fun h => ?_) <;> (try simp only [h])))
    all_goals rfl
  · have hd : decide ((s.length : Int) > 30000) = true := decide_eq_true (by omega)
    have hd' : decide ((30000 : Int) < (s.length : Int)) = true := decide_eq_true (by omega)
    unfold recov
    rw [if_neg h]
    refine Fn_of' (fn := f9) (by exact func9) c9 r9 (n := 23) (by rfl) (rv := [.cell 2 23, .tmp 3, .tmp 4]) (by rfl) (by simp) ?_
    unfold m9
    simp only [logD]
    repeat' (first
        | (simp only [hd, hd', ↓wA, ↓wC, wB, frzBE, frzBS, Nat.reduceEqDiff, Nat.reduceAdd, Nat.reduceSub, reduceIte, reduceCtorEq, Nat.reduceBEq, Nat.reduceLT, decide_true, sz23])
        | (refine execG_split (fun h => ?_) (fun h => ?_) <;> simp only [h])
        | (refine execC_split (fun h => ?_) (fun h => ?_) <;> (try simp only [h]))
        | (refine onPick_split (fun h => ?_) (fun h => ?_) <;> (try simp only [h])))
    all_goals rfl
theorem specRecover_fn (s : List UInt8) (hl : s.length ≤ 100000000) : Fn prog 8 [.str s] (fun rs => rs = recov s) := by
  have hE := opens_le 60 0 s
  by_cases h : s.length ≤ 30000
  · have hR := l27Open_fn s hl
    have hd : decide ((s.length : Int) > 30000) = false := decide_eq_false (by omega)
    have hd' : decide ((30000 : Int) < (s.length : Int)) = false := decide_eq_false (by omega)
    unfold recov
    rw [if_pos h]
    refine Fn_of' (fn := f8) (by exact func8) c8 r8 (n := 23) (by rfl) (rv := [.cell 2 23, .tmp 3, .tmp 4]) (by rfl) (by simp) ?_
    unfold m8
    simp only [logD]
    repeat' (first
        | (simp only [hd, hd', dl_len, onC_true, Int.toNat_natCast, ↓wA, ↓wC, wB, frzBE, frzBS, Nat.reduceEqDiff, Nat.reduceAdd, Nat.reduceSub, reduceIte, reduceCtorEq, Nat.reduceBEq, Nat.reduceLT, decide_true, sz23])
        | (refine call_det (hR) rfl rfl ?_)
        | (refine callP_det (hR) rfl rfl ?_)
        | (with_reducible refine onC_i ?_ ?_; focus omega)
        | (refine execG_split (fun h => ?_) (fun h => ?_) <;> simp only [h])
        | (refine execC_split (fun h => ?_) (fun h => ?_) <;> (try simp only [h]))
        | (refine onPick_split (fun h => ?_) (fun h => ?_) <;> (try simp only [h])))
    all_goals rfl
  · have hd : decide ((s.length : Int) > 30000) = true := decide_eq_true (by omega)
    have hd' : decide ((30000 : Int) < (s.length : Int)) = true := decide_eq_true (by omega)
    unfold recov
    rw [if_neg h]
    refine Fn_of' (fn := f8) (by exact func8) c8 r8 (n := 23) (by rfl) (rv := [.cell 2 23, .tmp 3, .tmp 4]) (by rfl) (by simp) ?_
    unfold m8
    simp only [logD]
    repeat' (first
        | (simp only [hd, hd', ↓wA, ↓wC, wB, frzBE, frzBS, Nat.reduceEqDiff, Nat.reduceAdd, Nat.reduceSub, reduceIte, reduceCtorEq, Nat.reduceBEq, Nat.reduceLT, decide_true, sz23])
        | (refine execG_split (fun h => ?_) (fun h => ?_) <;> simp only [h])
        | (refine execC_split (fun h => ?_) (fun h => ?_) <;> (try simp only [h]))
        | (refine onPick_split (fun h => ?_) (fun h => ?_) <;> (try simp only [h])))
    all_goals rfl
theorem law3_fn (s : List UInt8) (hl : s.length ≤ maxLen) : Fn prog 3 [.str s] (fun rs => rs = [.bool true]) := by
  rw [maxLen_eq] at hl
  by_cases h : s.length ≤ 1048576
  · have hd : decide ((1048576 : Int) < (s.length : Int)) = false := decide_eq_false (by omega)
    have hS := specRecover_fn s (by omega)
    have hI := implRecover_fn s (by omega)
    have key : ∀ (a b : List UInt8) (c n : Int) (t : Bool), recov s = [logD a b c, .int .i64 n, .bool t] → Fn prog 3 [.str s] (fun rs => rs = [.bool true]) := by
      intro a b c n t e
      rw [e] at hS hI
      have hq := eqLog_fn a b c
      refine Fn_of' (fn := f3) (by exact func3) c3 r3 (n := 38) (by rfl) (rv := [.tmp 2]) (by rfl) (by simp) ?_
      unfold m3
      simp only [logD] at hS hI hq ⊢
      repeat' (first
          | (simp only [hd, decide_true, ↓wA, ↓wC, wB, frzBE, frzBS, Nat.reduceEqDiff, Nat.reduceAdd, Nat.reduceSub, reduceIte, reduceCtorEq, Nat.reduceBEq, Nat.reduceLT, decide_true, sz23])
          | (refine call_det (hS) rfl rfl ?_)
          | (refine callP_det (hS) rfl rfl ?_)
          | (refine call_det (hI) rfl rfl ?_)
          | (refine callP_det (hI) rfl rfl ?_)
          | (refine call_det (hq) rfl rfl ?_)
          | (refine callP_det (hq) rfl rfl ?_)
          | (refine execG_split (fun h => ?_) (fun h => ?_) <;> simp only [h])
          | (refine execC_split (fun h => ?_) (fun h => ?_) <;> (try simp only [h]))
          | (refine onPick_split (fun h => ?_) (fun h => ?_) <;> (try simp only [h])))
      all_goals simp_all
    unfold recov at key
    split at key
    · exact key _ _ _ _ _ rfl
    · exact key _ _ _ _ _ rfl
  · have hd : decide ((1048576 : Int) < (s.length : Int)) = true := decide_eq_true (by omega)
    refine Fn_of' (fn := f3) (by exact func3) c3 r3 (n := 38) (by rfl) (rv := [.tmp 2]) (by rfl) (by simp) ?_
    unfold m3
    repeat' (first
        | (simp only [hd, ↓wA, ↓wC, wB, frzBE, frzBS, Nat.reduceEqDiff, Nat.reduceAdd, Nat.reduceSub, reduceIte, reduceCtorEq, Nat.reduceBEq, Nat.reduceLT, decide_true, sz23])
        | (refine execG_split (fun h => ?_) (fun h => ?_) <;> simp only [h])
        | (refine execC_split (fun h => ?_) (fun h => ?_) <;> (try simp only [h]))
        | (refine onPick_split (fun h => ?_) (fun h => ?_) <;> (try simp only [h])))
theorem law3 (x0 : D) (h0 : Typed .str x0) : Fn prog 3 [x0] (fun rs => rs = [.bool true]) := by
  obtain ⟨s, rfl, h⟩ := h0
  exact law3_fn s h
end Go.Pe.Tryd
