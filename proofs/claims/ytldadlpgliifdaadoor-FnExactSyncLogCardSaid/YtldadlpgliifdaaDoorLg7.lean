/- What a valid log is; the laws of RecoverLog, IsValidLog, SyncLog. -/
import Derived.Test.YtldadlpgliifdaaDoorW1
set_option maxRecDepth 100000
set_option maxHeartbeats 4000000
set_option linter.all false
namespace Go.Pe.Tryd
open Go.Proofs.Tryd Go.Sort
def logD (d p : List UInt8) (c : Int) : D := .st (.cons (.str d) (.cons (.str p) (.cons (.int .i64 c) .nil)))
theorem toLog_fn (d p : List UInt8) (c : Int) : Fn prog 13 [logD d p c] (fun rs => rs = [logD d p c]) := by
  refine Fn_of' (fn := f13) (by exact func13) c13 r13 (n := 14) (by rfl) (rv := [.cell 2 26]) (by rfl) (by simp) ?_
  unfold m13
  simp only [logD]
  repeat' (first
      | (simp only [↓wA, ↓wC, wB, frzBE, frzBS, Nat.reduceEqDiff, Nat.reduceAdd, Nat.reduceSub, reduceIte, reduceCtorEq, Nat.reduceBEq, Nat.reduceLT, decide_true, sz26])
      | (refine execG_split (fun h => ?_) (fun h => ?_) <;> simp only [h])
      | (refine execC_split (fun h => ?_) (fun h => ?_) <;> (try simp only [h]))
      | (refine onPick_split (fun h => ?_) (fun h => ?_) <;> (try simp only [h])))
def szL2 (d p : List UInt8) (n : Int) : Int := if (d.length : Int) + p.length ≤ n then n - d.length - p.length else -1
theorem szLog_fn (d p : List UInt8) (c : Int) (hd : d.length ≤ maxLen) (hp : p.length ≤ maxLen) : Fn prog 11 [logD d p c, .int .i64 1048576] (fun rs => rs = [.int .i64 (szL2 d p 1048576)]) := by
  rw [maxLen_eq] at hd hp
  refine Fn_of' (fn := f11) (by exact func11) c11 r11 (n := 20) (by rfl) (rv := [.tmp 4]) (by rfl) (by simp) ?_
  unfold m11
  simp only [logD, szL2]
  repeat' (first
      | (simp only [↓wA, ↓wC, wB, frzBE, frzBS, Nat.reduceEqDiff, Nat.reduceAdd, Nat.reduceSub, reduceIte, reduceCtorEq, Nat.reduceBEq, Nat.reduceLT, decide_true, sz26])
      | (refine onI_bare (by simp only [InR]; omega) ?_)
      | (refine onI_bare (by simp only [InR]; simp only [decide_eq_true_eq, decide_eq_false_iff_not] at *; omega) ?_)
      | (refine execG_split (fun h => ?_) (fun h => ?_) <;> simp only [h])
      | (refine execC_split (fun h => ?_) (fun h => ?_) <;> (try simp only [h]))
      | (refine onPick_split (fun h => ?_) (fun h => ?_) <;> (try simp only [h])))
  all_goals (simp only [decide_eq_true_eq, decide_eq_false_iff_not] at *; first | (rw [if_pos (by omega)]) | (rw [if_neg (by omega)]))
theorem szL2_ok {d p : List UInt8} (h : ¬ szL2 d p 1048576 < 0) : d.length + p.length ≤ 1048576 := by
  unfold szL2 at h
  split at h <;> omega
theorem eqLog_fn (d p : List UInt8) (c : Int) : Fn prog 17 [logD d p c, logD d p c] (fun rs => rs = [.bool true]) := by
  refine Fn_of' (fn := f17) (by exact func17) c17 r17 (n := 20) (by rfl) (rv := [.tmp 4]) (by rfl) (by simp) ?_
  unfold m17
  simp only [logD]
  repeat' (first
      | (simp only [decide_true, ↓wA, ↓wC, wB, frzBE, frzBS, Nat.reduceEqDiff, Nat.reduceAdd, Nat.reduceSub, reduceIte, reduceCtorEq, Nat.reduceBEq, Nat.reduceLT, decide_true, sz26])
      | (refine execG_split (fun h => ?_) (fun h => ?_) <;> simp only [h])
      | (refine execC_split (fun h => ?_) (fun h => ?_) <;> (try simp only [h]))
      | (refine onPick_split (fun h => ?_) (fun h => ?_) <;> (try simp only [h])))
/-- is it a log? -/
def lv (d p : List UInt8) (c : Int) : Bool := decide (((opens 60 0 (d ++ p)).2 : Int) = ((d ++ p).length : Nat)) && decide (((opens 60 0 d).2 : Int) = (d.length : Nat)) && decide (c = ((opens 60 0 (d ++ p)).1.length : Nat))
def recsOf (d p : List UInt8) : List (List UInt8 × List UInt8) := (opens 60 0 (d ++ p)).1
theorem lv_short {d p : List UInt8} {c : Int} (h : lv d p c = true) : d.length + p.length ≤ 30000 := by
  simp only [lv, Bool.and_eq_true, decide_eq_true_eq] at h
  have hB := opens_short (B := 430) (fun k c r h0 h1 hok => line_len (by simp only [InR]; omega) hok) 60 0 (d ++ p) (by omega) (by omega)
  have := h.1.1
  rw [List.length_append] at this
  omega
theorem recordsOf_fn (d p : List UInt8) (c : Int) (hl : d.length + p.length ≤ 100000000) : Fn prog 41 [logD d p c] (fun rs => rs = [.sl true 2 (dl recE (recsOf d p)), .bool (lv d p c)]) := by
  have hA := readRecords_fn (d ++ p) (by rw [List.length_append]; omega)
  have hD := readRecords_fn d (by omega)
  refine Fn_of' (fn := f41) (by exact func41) c41 r41 (n := 44) (by rfl) (rv := [.tmp 2, .tmp 3]) (by rfl) (by simp) ?_
  unfold m41
  simp only [logD]
  repeat' (first
      | (simp only [dl_len, onC_true, ↓wA, ↓wC, wB, frzBE, frzBS, Nat.reduceEqDiff, Nat.reduceAdd, Nat.reduceSub, reduceIte, reduceCtorEq, Nat.reduceBEq, Nat.reduceLT, decide_true, sz26])
      | (refine call_det (hA) rfl rfl ?_)
      | (refine callP_det (hA) rfl rfl ?_)
      | (refine call_det (hD) rfl rfl ?_)
      | (refine callP_det (hD) rfl rfl ?_)
      | (with_reducible refine onC_i ?_ ?_; focus (simp only [List.length_append]; omega))
      | (with_reducible refine onC_i ?_ ?_; focus omega)
      | (refine execG_split (fun h => ?_) (fun h => ?_) <;> simp only [h])
      | (refine execC_split (fun h => ?_) (fun h => ?_) <;> (try simp only [h]))
      | (refine onPick_split (fun h => ?_) (fun h => ?_) <;> (try simp only [h])))
  all_goals (unfold recsOf lv; simp_all [List.length_append])
theorem isValidLog_fn (d p : List UInt8) (c : Int) (hl : d.length + p.length ≤ 100000000) : Fn prog 14 [logD d p c] (fun rs => rs = [.bool (lv d p c)]) := by
  have hR := recordsOf_fn d p c hl
  refine Fn_of' (fn := f14) (by exact func14) c14 r14 (n := 11) (by rfl) (rv := [.tmp 2]) (by rfl) (by simp) ?_
  unfold m14
  simp only [logD] at hR ⊢
  repeat' (first
      | (simp only [↓wA, ↓wC, wB, frzBE, frzBS, Nat.reduceEqDiff, Nat.reduceAdd, Nat.reduceSub, reduceIte, reduceCtorEq, Nat.reduceBEq, Nat.reduceLT, decide_true, sz26])
      | (refine call_det (hR) rfl rfl ?_)
      | (refine callP_det (hR) rfl rfl ?_)
      | (refine execG_split (fun h => ?_) (fun h => ?_) <;> simp only [h])
      | (refine execC_split (fun h => ?_) (fun h => ?_) <;> (try simp only [h]))
      | (refine onPick_split (fun h => ?_) (fun h => ?_) <;> (try simp only [h])))
theorem l27Log_fn (d p : List UInt8) (c : Int) (hl : d.length + p.length ≤ 100000000) : Fn prog 40 [logD d p c] (fun rs => rs = [.bool (lv d p c)]) := by
  have hA := l27Open_fn (d ++ p) (by rw [List.length_append]; omega)
  have hD := l27Open_fn d (by omega)
  refine Fn_of' (fn := f40) (by exact func40) c40 r40 (n := 53) (by rfl) (rv := [.tmp 2]) (by rfl) (by simp) ?_
  unfold m40
  simp only [logD]
  repeat' (first
      | (simp only [dl_len, onC_true, ↓wA, ↓wC, wB, frzBE, frzBS, Nat.reduceEqDiff, Nat.reduceAdd, Nat.reduceSub, reduceIte, reduceCtorEq, Nat.reduceBEq, Nat.reduceLT, decide_true, sz26])
      | (refine call_det (hA) rfl rfl ?_)
      | (refine callP_det (hA) rfl rfl ?_)
      | (refine call_det (hD) rfl rfl ?_)
      | (refine callP_det (hD) rfl rfl ?_)
      | (with_reducible refine onC_i ?_ ?_; focus (simp only [List.length_append]; omega))
      | (with_reducible refine onC_i ?_ ?_; focus omega)
      | (with_reducible refine onI_bare ?_ ?_; focus (simp only [InR]; omega))
      | (refine execG_split (fun h => ?_) (fun h => ?_) <;> simp only [h])
      | (refine execC_split (fun h => ?_) (fun h => ?_) <;> (try simp only [h]))
      | (refine onPick_split (fun h => ?_) (fun h => ?_) <;> (try simp only [h])))
  all_goals
    by_cases hs : d.length + p.length ≤ 30000
    · first
        | (exfalso; simp only [decide_eq_true_eq] at *; omega)
        | (unfold lv; rw [show ((d ++ p).length : Int) = (d.length : Int) + p.length by simp, show decide (c = ((opens 60 0 (d ++ p)).1.length : Int)) = decide (((opens 60 0 (d ++ p)).1.length : Int) = c) from decide_eq_decide.2 eq_comm]; simp_all)
    · have hf : lv d p c = false := by
        cases hlv : lv d p c with
        | false => rfl
        | true => exact absurd (lv_short hlv) hs
      first
        | (exfalso; simp only [decide_eq_true_eq, decide_eq_false_iff_not] at *; omega)
        | (rw [hf])
def logSh : Sh := .st (.cons .str (.cons .str (.cons (.int .i64) .nil)))
def syncR (d p : List UInt8) (c : Int) : List D := if lv d p c = true then [logD (d ++ p) [] c, .bool true] else [logD [] [] 0, .bool false]
theorem implSync_fn (d p : List UInt8) (c : Int) (hl : d.length + p.length ≤ 100000000) : Fn prog 16 [logD d p c] (fun rs => rs = syncR d p c) := by
  have hV := isValidLog_fn d p c hl
  unfold syncR
  cases hv : lv d p c with
  | true =>
    rw [hv] at hV
    refine Fn_of' (fn := f16) (by exact func16) c16 r16 (n := 16) (by rfl) (rv := [.cell 2 26, .tmp 3]) (by rfl) (by simp) ?_
    unfold m16
    simp only [logD] at hV ⊢
    repeat' (first
        | (simp only [onC_true, ↓wA, ↓wC, wB, frzBE, frzBS, Nat.reduceEqDiff, Nat.reduceAdd, Nat.reduceSub, reduceIte, reduceCtorEq, Nat.reduceBEq, Nat.reduceLT, decide_true, sz26])
        | (refine call_det (hV) rfl rfl ?_)
        | (refine callP_det (hV) rfl rfl ?_)
        | (with_reducible refine onC_i ?_ ?_; focus omega)
        | (refine execG_split (fun h => ?_) (fun h => ?_) <;> simp only [h])
        | (refine execC_split (fun h => ?_) (fun h => ?_) <;> (try simp only [h]))
        | (refine onPick_split (fun h => ?_) (fun h => ?_) <;> (try simp only [h])))
    all_goals rfl
  | false =>
    rw [hv] at hV
    refine Fn_of' (fn := f16) (by exact func16) c16 r16 (n := 16) (by rfl) (rv := [.cell 2 26, .tmp 3]) (by rfl) (by simp) ?_
    unfold m16
    simp only [logD] at hV ⊢
    repeat' (first
        | (simp only [onC_true, ↓wA, ↓wC, wB, frzBE, frzBS, Nat.reduceEqDiff, Nat.reduceAdd, Nat.reduceSub, reduceIte, reduceCtorEq, Nat.reduceBEq, Nat.reduceLT, decide_true, sz26])
        | (refine call_det (hV) rfl rfl ?_)
        | (refine callP_det (hV) rfl rfl ?_)
        | (refine execG_split (fun h => ?_) (fun h => ?_) <;> simp only [h])
        | (refine execC_split (fun h => ?_) (fun h => ?_) <;> (try simp only [h]))
        | (refine onPick_split (fun h => ?_) (fun h => ?_) <;> (try simp only [h])))
    all_goals rfl
theorem specSync_fn (d p : List UInt8) (c : Int) (hl : d.length + p.length ≤ 100000000) : Fn prog 15 [logD d p c] (fun rs => rs = syncR d p c) := by
  have hV := l27Log_fn d p c hl
  unfold syncR
  cases hv : lv d p c with
  | true =>
    rw [hv] at hV
    refine Fn_of' (fn := f15) (by exact func15) c15 r15 (n := 16) (by rfl) (rv := [.cell 2 26, .tmp 3]) (by rfl) (by simp) ?_
    unfold m15
    simp only [logD] at hV ⊢
    repeat' (first
        | (simp only [onC_true, ↓wA, ↓wC, wB, frzBE, frzBS, Nat.reduceEqDiff, Nat.reduceAdd, Nat.reduceSub, reduceIte, reduceCtorEq, Nat.reduceBEq, Nat.reduceLT, decide_true, sz26])
        | (refine call_det (hV) rfl rfl ?_)
        | (refine callP_det (hV) rfl rfl ?_)
        | (with_reducible refine onC_i ?_ ?_; focus omega)
        | (refine execG_split (fun h => ?_) (fun h => ?_) <;> simp only [h])
        | (refine execC_split (fun h => ?_) (fun h => ?_) <;> (try simp only [h]))
        | (refine onPick_split (fun h => ?_) (fun h => ?_) <;> (try simp only [h])))
    all_goals rfl
  | false =>
    rw [hv] at hV
    refine Fn_of' (fn := f15) (by exact func15) c15 r15 (n := 16) (by rfl) (rv := [.cell 2 26, .tmp 3]) (by rfl) (by simp) ?_
    unfold m15
    simp only [logD] at hV ⊢
    repeat' (first
        | (simp only [onC_true, ↓wA, ↓wC, wB, frzBE, frzBS, Nat.reduceEqDiff, Nat.reduceAdd, Nat.reduceSub, reduceIte, reduceCtorEq, Nat.reduceBEq, Nat.reduceLT, decide_true, sz26])
        | (refine call_det (hV) rfl rfl ?_)
        | (refine callP_det (hV) rfl rfl ?_)
        | (refine execG_split (fun h => ?_) (fun h => ?_) <;> simp only [h])
        | (refine execC_split (fun h => ?_) (fun h => ?_) <;> (try simp only [h]))
        | (refine onPick_split (fun h => ?_) (fun h => ?_) <;> (try simp only [h])))
    all_goals rfl
theorem law5_fn (d p : List UInt8) (c : Int) (hd : d.length ≤ maxLen) (hp : p.length ≤ maxLen) : Fn prog 4 [logD d p c] (fun rs => rs = [.bool true]) := by
  have hz := szLog_fn d p c hd hp
  have ht := toLog_fn d p c
  by_cases h : szL2 d p 1048576 < 0
  · have hdz : decide (szL2 d p 1048576 < 0) = true := decide_eq_true h
    refine Fn_of' (fn := f4) (by exact func4) c4 r4 (n := 34) (by rfl) (rv := [.tmp 2]) (by rfl) (by simp) ?_
    unfold m4
    simp only [logD] at hz ht ⊢
    repeat' (first
        | (simp only [hdz, ↓wA, ↓wC, wB, frzBE, frzBS, Nat.reduceEqDiff, Nat.reduceAdd, Nat.reduceSub, reduceIte, reduceCtorEq, Nat.reduceBEq, Nat.reduceLT, decide_true, sz26])
        | (refine call_det (hz) rfl rfl ?_)
        | (refine callP_det (hz) rfl rfl ?_)
        | (refine execG_split (fun h => ?_) (fun h => ?_) <;> simp only [h])
        | (refine execC_split (fun h => ?_) (fun h => ?_) <;> (try simp only [h]))
        | (refine onPick_split (fun h => ?_) (fun h => ?_) <;> (try simp only [h])))
  · have hdz : decide (szL2 d p 1048576 < 0) = false := decide_eq_false h
    have hl := szL2_ok h
    have hS := specSync_fn d p c (by omega)
    have hI := implSync_fn d p c (by omega)
    have key : ∀ (a b : List UInt8) (n : Int) (t : Bool), syncR d p c = [logD a b n, .bool t] → Fn prog 4 [logD d p c] (fun rs => rs = [.bool true]) := by
      intro a b n t e
      rw [e] at hS hI
      have hq := eqLog_fn a b n
      refine Fn_of' (fn := f4) (by exact func4) c4 r4 (n := 34) (by rfl) (rv := [.tmp 2]) (by rfl) (by simp) ?_
      unfold m4
      simp only [logD] at hz ht hS hI hq ⊢
      repeat' (first
          | (simp only [hdz, decide_true, ↓wA, ↓wC, wB, frzBE, frzBS, Nat.reduceEqDiff, Nat.reduceAdd, Nat.reduceSub, reduceIte, reduceCtorEq, Nat.reduceBEq, Nat.reduceLT, decide_true, sz26])
          | (refine call_det (hz) rfl rfl ?_)
          | (refine callP_det (hz) rfl rfl ?_)
          | (refine call_det (ht) rfl rfl ?_)
          | (refine callP_det (ht) rfl rfl ?_)
          | (refine call_det (hS) rfl rfl ?_)
          | (refine callP_det (hS) rfl rfl ?_)
          | (refine call_det (hI) rfl rfl ?_)
          | (refine callP_det (hI) rfl rfl ?_)
          | (refine call_det (hq) rfl rfl ?_)
          | (refine callP_det (hq) rfl rfl ?_)
          | (refine execG_split (fun h => ?_) (fun h => ?_) <;> simp only [h])
          | (refine execC_split (fun h => ?_) (fun h => ?_) <;> (try simp only [h]))
          | (refine onPick_split (fun h => ?_) (fun h => ?_) <;> (try simp only [h])))
      all_goals simp_all
    unfold syncR at key
    split at key
    · exact key _ _ _ _ rfl
    · exact key _ _ _ _ rfl
theorem law5 (x0 : D) (h0 : Typed logSh x0) : Fn prog 4 [x0] (fun rs => rs = [.bool true]) := by
  obtain ⟨_, rfl, _, _, rfl, ⟨d, rfl, hd⟩, _, _, rfl, ⟨p, rfl, hp⟩, _, _, rfl, ⟨c, rfl, _⟩, rfl⟩ := h0
  exact law5_fn d p c hd hp
end Go.Pe.Tryd
