/- The law of AppendRecord. -/
import Derived.Test.YtldadlpgliifdaaDoorW1
set_option maxRecDepth 100000
set_option maxHeartbeats 4000000
set_option linter.all false
namespace Go.Pe.Tryd
open Go.Proofs.Tryd Go.Sort
def appR (d p : List UInt8) (k : Int) (c r : List UInt8) : List D :=
  if lv d p k = true ∧ recOK c r = true then
    if k = 60 then [logD d p k, .int .i64 2] else [logD d (p ++ (line k c r ++ [10])) (k + 1), .int .i64 0]
  else [logD d p k, .int .i64 1]
theorem lv_count {d p : List UInt8} {k : Int} (h : lv d p k = true) : 0 ≤ k ∧ k ≤ 60 := by
  have hE := opens_le 60 0 (d ++ p)
  simp only [lv, Bool.and_eq_true, decide_eq_true_eq] at h
  omega
theorem implAppend_fn (d p : List UInt8) (k : Int) (c r : List UInt8) (hl : d.length + p.length ≤ 1048576) (hc : c.length ≤ maxLen) (hr : r.length ≤ maxLen) : Fn prog 26 [logD d p k, recD c r] (fun rs => rs = appR d p k c r) := by
  have hV := isValidLog_fn d p k (by omega)
  have hI := isValidRecord_fn c r hc hr
  have hE := encode_fn k c r hc hr
  unfold appR
  cases hv : lv d p k with
  | false =>
    rw [hv] at hV
    refine Fn_of' (fn := f26) (by exact func26) c26 r26 (n := 40) (by rfl) (rv := [.cell 4 26, .tmp 5]) (by rfl) (by simp) ?_
    unfold m26
    simp only [logD, recD] at hV ⊢
    repeat' (first
        | (simp only [↓wA, ↓wC, wB, frzBE, frzBS, Nat.reduceEqDiff, Nat.reduceAdd, Nat.reduceSub, reduceIte, reduceCtorEq, Nat.reduceBEq, Nat.reduceLT, decide_true, sz26])
        | (refine call_det (hV) rfl rfl ?_)
        | (refine callP_det (hV) rfl rfl ?_)
        | (refine execG_split (fun h => ?_) (fun h => ?_) <;> simp only [h])
        | (refine execC_split (fun h => ?_) (fun h => ?_) <;> (try simp only [h]))
        | (refine onPick_split (fun h => ?_) (fun h => ?_) <;> (try simp only [h])))
    all_goals simp
  | true =>
    rw [hv] at hV
    have hk := lv_count hv
    cases hok : recOK c r with
    | false =>
      rw [hok] at hI
      refine Fn_of' (fn := f26) (by exact func26) c26 r26 (n := 40) (by rfl) (rv := [.cell 4 26, .tmp 5]) (by rfl) (by simp) ?_
      unfold m26
      simp only [logD, recD] at hV hI ⊢
      repeat' (first
          | (simp only [↓wA, ↓wC, wB, frzBE, frzBS, Nat.reduceEqDiff, Nat.reduceAdd, Nat.reduceSub, reduceIte, reduceCtorEq, Nat.reduceBEq, Nat.reduceLT, decide_true, sz26])
          | (refine call_det (hV) rfl rfl ?_)
          | (refine callP_det (hV) rfl rfl ?_)
          | (refine call_det (hI) rfl rfl ?_)
          | (refine callP_det (hI) rfl rfl ?_)
          | (refine execG_split (fun h => ?_) (fun h => ?_) <;> simp only [h])
          | (refine execC_split (fun h => ?_) (fun h => ?_) <;> (try simp only [h]))
          | (refine onPick_split (fun h => ?_) (fun h => ?_) <;> (try simp only [h])))
      all_goals simp
    | true =>
      rw [hok] at hI
      by_cases h60 : k = 60
      · have hd : decide (k = 60) = true := decide_eq_true h60
        refine Fn_of' (fn := f26) (by exact func26) c26 r26 (n := 40) (by rfl) (rv := [.cell 4 26, .tmp 5]) (by rfl) (by simp) ?_
        unfold m26
        simp only [logD, recD] at hV hI ⊢
        repeat' (first
            | (simp only [hd, ↓wA, ↓wC, wB, frzBE, frzBS, Nat.reduceEqDiff, Nat.reduceAdd, Nat.reduceSub, reduceIte, reduceCtorEq, Nat.reduceBEq, Nat.reduceLT, decide_true, sz26])
            | (refine call_det (hV) rfl rfl ?_)
            | (refine callP_det (hV) rfl rfl ?_)
            | (refine call_det (hI) rfl rfl ?_)
            | (refine callP_det (hI) rfl rfl ?_)
            | (refine execG_split (fun h => ?_) (fun h => ?_) <;> simp only [h])
            | (refine execC_split (fun h => ?_) (fun h => ?_) <;> (try simp only [h]))
            | (refine onPick_split (fun h => ?_) (fun h => ?_) <;> (try simp only [h])))
        all_goals simp [h60]
      · have hd : decide (k = 60) = false := decide_eq_false h60
        have hEq : encR k c r = [.str (line k c r ++ [10]), .bool true] := if_pos ⟨by simp [within]; omega, hok⟩
        have hll := line_len (k := k) (by simp only [InR]; omega) hok
        rw [hEq] at hE
        refine Fn_of' (fn := f26) (by exact func26) c26 r26 (n := 40) (by rfl) (rv := [.cell 4 26, .tmp 5]) (by rfl) (by simp) ?_
        unfold m26
        simp only [logD, recD] at hV hI hE ⊢
        repeat' (first
            | (simp only [hd, onC_true, ↓wA, ↓wC, wB, frzBE, frzBS, Nat.reduceEqDiff, Nat.reduceAdd, Nat.reduceSub, reduceIte, reduceCtorEq, Nat.reduceBEq, Nat.reduceLT, decide_true, sz26])
            | (refine call_det (hV) rfl rfl ?_)
            | (refine callP_det (hV) rfl rfl ?_)
            | (refine call_det (hI) rfl rfl ?_)
            | (refine callP_det (hI) rfl rfl ?_)
            | (refine call_det (hE) rfl rfl ?_)
            | (refine callP_det (hE) rfl rfl ?_)
            | (with_reducible refine onC_i ?_ ?_; focus ((try simp only [List.length_append, List.length_singleton]); omega))
            | (with_reducible refine onI_bare ?_ ?_; focus (simp only [InR]; omega))
            | (refine execG_split (fun h => ?_) (fun h => ?_) <;> simp only [h])
            | (refine execC_split (fun h => ?_) (fun h => ?_) <;> (try simp only [h]))
            | (refine onPick_split (fun h => ?_) (fun h => ?_) <;> (try simp only [h])))
        all_goals simp [h60]
theorem specAppend_fn (d p : List UInt8) (k : Int) (c r : List UInt8) (hl : d.length + p.length ≤ 1048576) (hc : c.length ≤ maxLen) (hr : r.length ≤ maxLen) : Fn prog 24 [logD d p k, recD c r] (fun rs => rs = appR d p k c r) := by
  have hV := l27Log_fn d p k (by omega)
  have hI := l27Good_fn c r hc hr
  unfold appR
  cases hv : lv d p k with
  | false =>
    rw [hv] at hV
    refine Fn_of' (fn := f24) (by exact func24) c24 r24 (n := 32) (by rfl) (rv := [.cell 4 26, .tmp 5]) (by rfl) (by simp) ?_
    unfold m24
    simp only [logD, recD] at hV ⊢
    repeat' (first
        | (simp only [↓wA, ↓wC, wB, frzBE, frzBS, Nat.reduceEqDiff, Nat.reduceAdd, Nat.reduceSub, reduceIte, reduceCtorEq, Nat.reduceBEq, Nat.reduceLT, decide_true, sz26])
        | (refine call_det (hV) rfl rfl ?_)
        | (refine callP_det (hV) rfl rfl ?_)
        | (refine execG_split (fun h => ?_) (fun h => ?_) <;> simp only [h])
        | (refine execC_split (fun h => ?_) (fun h => ?_) <;> (try simp only [h]))
        | (refine onPick_split (fun h => ?_) (fun h => ?_) <;> (try simp only [h])))
    all_goals simp
  | true =>
    rw [hv] at hV
    have hk := lv_count hv
    cases hok : recOK c r with
    | false =>
      rw [hok] at hI
      refine Fn_of' (fn := f24) (by exact func24) c24 r24 (n := 32) (by rfl) (rv := [.cell 4 26, .tmp 5]) (by rfl) (by simp) ?_
      unfold m24
      simp only [logD, recD] at hV hI ⊢
      repeat' (first
          | (simp only [↓wA, ↓wC, wB, frzBE, frzBS, Nat.reduceEqDiff, Nat.reduceAdd, Nat.reduceSub, reduceIte, reduceCtorEq, Nat.reduceBEq, Nat.reduceLT, decide_true, sz26])
          | (refine call_det (hV) rfl rfl ?_)
          | (refine callP_det (hV) rfl rfl ?_)
          | (refine call_det (hI) rfl rfl ?_)
          | (refine callP_det (hI) rfl rfl ?_)
          | (refine execG_split (fun h => ?_) (fun h => ?_) <;> simp only [h])
          | (refine execC_split (fun h => ?_) (fun h => ?_) <;> (try simp only [h]))
          | (refine onPick_split (fun h => ?_) (fun h => ?_) <;> (try simp only [h])))
      all_goals simp
    | true =>
      rw [hok] at hI
      by_cases h60 : k = 60
      · have hd : decide (k = 60) = true := decide_eq_true h60
        refine Fn_of' (fn := f24) (by exact func24) c24 r24 (n := 32) (by rfl) (rv := [.cell 4 26, .tmp 5]) (by rfl) (by simp) ?_
        unfold m24
        simp only [logD, recD] at hV hI ⊢
        repeat' (first
            | (simp only [hd, ↓wA, ↓wC, wB, frzBE, frzBS, Nat.reduceEqDiff, Nat.reduceAdd, Nat.reduceSub, reduceIte, reduceCtorEq, Nat.reduceBEq, Nat.reduceLT, decide_true, sz26])
            | (refine call_det (hV) rfl rfl ?_)
            | (refine callP_det (hV) rfl rfl ?_)
            | (refine call_det (hI) rfl rfl ?_)
            | (refine callP_det (hI) rfl rfl ?_)
            | (refine execG_split (fun h => ?_) (fun h => ?_) <;> simp only [h])
            | (refine execC_split (fun h => ?_) (fun h => ?_) <;> (try simp only [h]))
            | (refine onPick_split (fun h => ?_) (fun h => ?_) <;> (try simp only [h])))
        all_goals simp [h60]
      · have hd : decide (k = 60) = false := decide_eq_false h60
        have hE := l27Line_fn k c r hk.1 (by simp only [InR]; omega) hok
        have hll := line_len (k := k) (by simp only [InR]; omega) hok
        refine Fn_of' (fn := f24) (by exact func24) c24 r24 (n := 32) (by rfl) (rv := [.cell 4 26, .tmp 5]) (by rfl) (by simp) ?_
        unfold m24
        simp only [logD, recD] at hV hI hE ⊢
        repeat' (first
            | (simp only [hd, onC_true, ↓wA, ↓wC, wB, frzBE, frzBS, Nat.reduceEqDiff, Nat.reduceAdd, Nat.reduceSub, reduceIte, reduceCtorEq, Nat.reduceBEq, Nat.reduceLT, decide_true, sz26])
            | (refine call_det (hV) rfl rfl ?_)
            | (refine callP_det (hV) rfl rfl ?_)
            | (refine call_det (hI) rfl rfl ?_)
            | (refine callP_det (hI) rfl rfl ?_)
            | (refine call_det (hE) rfl rfl ?_)
            | (refine callP_det (hE) rfl rfl ?_)
            | (refine onJ_q ?_)
            | (with_reducible refine onC_i ?_ ?_; focus ((try simp only [List.length_append, List.length_singleton]); omega))
            | (with_reducible refine onI_bare ?_ ?_; focus (simp only [InR]; omega))
            | (refine execG_split (fun h => ?_) (fun h => ?_) <;> simp only [h])
            | (refine execC_split (fun h => ?_) (fun h => ?_) <;> (try simp only [h]))
            | (refine onPick_split (fun h => ?_) (fun h => ?_) <;> (try simp only [h])))
        all_goals simp [h60]
theorem szLogRecordN_fn (c r : List UInt8) (n : Int) (h0 : 0 ≤ n) (h1 : n ≤ 1048576) (hc : c.length ≤ maxLen) (hr : r.length ≤ maxLen) : Fn prog 23 [recD c r, .int .i64 n] (fun rs => rs = [.int .i64 (szL2 c r n)]) := by
  rw [maxLen_eq] at hc hr
  refine Fn_of' (fn := f23) (by exact func23) c23 r23 (n := 20) (by rfl) (rv := [.tmp 4]) (by rfl) (by simp) ?_
  unfold m23
  simp only [recD, szL2]
  repeat' (first
      | (simp only [↓wA, ↓wC, wB, frzBE, frzBS, Nat.reduceEqDiff, Nat.reduceAdd, Nat.reduceSub, reduceIte, reduceCtorEq, Nat.reduceBEq, Nat.reduceLT, decide_true, sz26])
      | (refine onI_bare (by simp only [InR]; omega) ?_)
      | (refine onI_bare (by simp only [InR]; simp only [decide_eq_true_eq, decide_eq_false_iff_not] at *; omega) ?_)
      | (refine execG_split (fun h => ?_) (fun h => ?_) <;> simp only [h])
      | (refine execC_split (fun h => ?_) (fun h => ?_) <;> (try simp only [h]))
      | (refine onPick_split (fun h => ?_) (fun h => ?_) <;> (try simp only [h])))
  all_goals (simp only [decide_eq_true_eq, decide_eq_false_iff_not] at *; first | (rw [if_pos (by omega)]) | (rw [if_neg (by omega)]))
theorem law6_fn (d p : List UInt8) (k : Int) (c r : List UInt8) (hd : d.length ≤ maxLen) (hp : p.length ≤ maxLen) (hc : c.length ≤ maxLen) (hr : r.length ≤ maxLen) : Fn prog 6 [logD d p k, recD c r] (fun rs => rs = [.bool true]) := by
  have hz := szLog_fn d p k hd hp
  by_cases h : szL2 d p 1048576 < 0
  · have hdz : decide (szL2 d p 1048576 < 0) = true := decide_eq_true h
    refine Fn_of' (fn := f6) (by exact func6) c6 r6 (n := 45) (by rfl) (rv := [.tmp 4]) (by rfl) (by simp) ?_
    unfold m6
    simp only [logD, recD] at hz ⊢
    repeat' (first
        | (simp only [hdz, ↓wA, ↓wC, wB, frzBE, frzBS, Nat.reduceEqDiff, Nat.reduceAdd, Nat.reduceSub, reduceIte, reduceCtorEq, Nat.reduceBEq, Nat.reduceLT, decide_true, sz26])
        | (refine call_det (hz) rfl rfl ?_)
        | (refine callP_det (hz) rfl rfl ?_)
        | (refine execG_split (fun h => ?_) (fun h => ?_) <;> simp only [h])
        | (refine execC_split (fun h => ?_) (fun h => ?_) <;> (try simp only [h]))
        | (refine onPick_split (fun h => ?_) (fun h => ?_) <;> (try simp only [h])))
  · have hdz : decide (szL2 d p 1048576 < 0) = false := decide_eq_false h
    have hl := szL2_ok h
    have hn : 0 ≤ szL2 d p 1048576 ∧ szL2 d p 1048576 ≤ 1048576 := by unfold szL2 at h ⊢; split at h <;> omega
    generalize szL2 d p 1048576 = n at *
    have hz2 := szLogRecordN_fn c r n hn.1 hn.2 hc hr
    by_cases h2 : szL2 c r n < 0
    · have hdz2 : decide (szL2 c r n < 0) = true := decide_eq_true h2
      refine Fn_of' (fn := f6) (by exact func6) c6 r6 (n := 45) (by rfl) (rv := [.tmp 4]) (by rfl) (by simp) ?_
      unfold m6
      simp only [logD, recD] at hz hz2 ⊢
      repeat' (first
          | (simp only [hdz, hdz2, ↓wA, ↓wC, wB, frzBE, frzBS, Nat.reduceEqDiff, Nat.reduceAdd, Nat.reduceSub, reduceIte, reduceCtorEq, Nat.reduceBEq, Nat.reduceLT, decide_true, sz26])
          | (refine call_det (hz) rfl rfl ?_)
          | (refine callP_det (hz) rfl rfl ?_)
          | (refine call_det (hz2) rfl rfl ?_)
          | (refine callP_det (hz2) rfl rfl ?_)
          | (refine execG_split (fun h => ?_) (fun h => ?_) <;> simp only [h])
          | (refine execC_split (fun h => ?_) (fun h => ?_) <;> (try simp only [h]))
          | (refine onPick_split (fun h => ?_) (fun h => ?_) <;> (try simp only [h])))
    · have hdz2 : decide (szL2 c r n < 0) = false := decide_eq_false h2
      generalize szL2 c r n = n2 at *
      have ht := toLog_fn d p k
      have ht2 := toLogRecord_fn c r
      have hS := specAppend_fn d p k c r (by omega) hc hr
      have hI := implAppend_fn d p k c r (by omega) hc hr
      have key : ∀ (a b : List UInt8) (m t : Int), appR d p k c r = [logD a b m, .int .i64 t] → Fn prog 6 [logD d p k, recD c r] (fun rs => rs = [.bool true]) := by
        intro a b m t e
        rw [e] at hS hI
        have hq := eqLog_fn a b m
        refine Fn_of' (fn := f6) (by exact func6) c6 r6 (n := 45) (by rfl) (rv := [.tmp 4]) (by rfl) (by simp) ?_
        unfold m6
        simp only [logD, recD] at hz hz2 ht ht2 hS hI hq ⊢
        repeat' (first
            | (simp only [hdz, hdz2, decide_true, ↓wA, ↓wC, wB, frzBE, frzBS, Nat.reduceEqDiff, Nat.reduceAdd, Nat.reduceSub, reduceIte, reduceCtorEq, Nat.reduceBEq, Nat.reduceLT, decide_true, sz26])
            | (refine call_det (hz) rfl rfl ?_)
            | (refine callP_det (hz) rfl rfl ?_)
            | (refine call_det (hz2) rfl rfl ?_)
            | (refine callP_det (hz2) rfl rfl ?_)
            | (refine execG_split (fun h => ?_) (fun h => ?_) <;> simp only [h])
            | (refine execC_split (fun h => ?_) (fun h => ?_) <;> (try simp only [h]))
            | (refine onPick_split (fun h => ?_) (fun h => ?_) <;> (try simp only [h])))
        refine onJ_one ⟨[(2, .ptr 0 0 []), (3, .ptr 1 0 []), (6, .ptr 2 0 []), (7, .d (.int .i64 t))], [.box (logD d p k), .box (recD c r), .box (logD a b m)]⟩ ?_ ?_
        · simp only [logD, recD]
          repeat' (first
              | (simp only [↓wA, ↓wC, wB, frzBE, frzBS, Nat.reduceEqDiff, Nat.reduceAdd, Nat.reduceSub, reduceIte, reduceCtorEq, Nat.reduceBEq, Nat.reduceLT, decide_true, sz26])
              | (refine call_det (ht) rfl rfl ?_)
              | (refine callP_det (ht) rfl rfl ?_)
              | (refine call_det (ht2) rfl rfl ?_)
              | (refine callP_det (ht2) rfl rfl ?_)
              | (refine call_det (hS) rfl rfl ?_)
              | (refine callP_det (hS) rfl rfl ?_)
              | (with_reducible refine And.intro ?_ ?_)
              | (refine execG_split (fun h => ?_) (fun h => ?_) <;> simp only [h])
              | (refine execC_split (fun h => ?_) (fun h => ?_) <;> (try simp only [h]))
              | (refine onPick_split (fun h => ?_) (fun h => ?_) <;> (try simp only [h])))
          all_goals exact (weak_of _ rfl ⟨⟨rfl, rfl⟩, ⟨rfl, rfl⟩, ⟨rfl, rfl⟩, ⟨rfl, rfl⟩, trivial⟩)
        · simp only [logD, recD]
          refine onJ_one ⟨[(6, .ptr 2 0 []), (7, .d (.int .i64 t)), (8, .ptr 3 0 []), (9, .d (.int .i64 t))], [.box (logD d p k), .box (recD c r), .box (logD a b m), .box (logD a b m)]⟩ ?_ ?_
          · simp only [logD, recD]
            repeat' (first
                | (simp only [↓wA, ↓wC, wB, frzBE, frzBS, Nat.reduceEqDiff, Nat.reduceAdd, Nat.reduceSub, reduceIte, reduceCtorEq, Nat.reduceBEq, Nat.reduceLT, decide_true, sz26])
                | (refine call_det (ht) rfl rfl ?_)
                | (refine callP_det (ht) rfl rfl ?_)
                | (refine call_det (ht2) rfl rfl ?_)
                | (refine callP_det (ht2) rfl rfl ?_)
                | (refine call_det (hI) rfl rfl ?_)
                | (refine callP_det (hI) rfl rfl ?_)
                | (with_reducible refine And.intro ?_ ?_)
                | (refine execG_split (fun h => ?_) (fun h => ?_) <;> simp only [h])
                | (refine execC_split (fun h => ?_) (fun h => ?_) <;> (try simp only [h]))
                | (refine onPick_split (fun h => ?_) (fun h => ?_) <;> (try simp only [h])))
            all_goals exact (weak_of _ rfl ⟨⟨rfl, rfl⟩, ⟨rfl, rfl⟩, ⟨rfl, rfl⟩, ⟨rfl, rfl⟩, trivial⟩)
          · simp only [logD, recD]
            repeat' (first
                | (simp only [decide_true, ↓wA, ↓wC, wB, frzBE, frzBS, Nat.reduceEqDiff, Nat.reduceAdd, Nat.reduceSub, reduceIte, reduceCtorEq, Nat.reduceBEq, Nat.reduceLT, decide_true, sz26])
                | (refine call_det (hq) rfl rfl ?_)
                | (refine callP_det (hq) rfl rfl ?_)
                | (refine execG_split (fun h => ?_) (fun h => ?_) <;> simp only [h])
                | (refine execC_split (fun h => ?_) (fun h => ?_) <;> (try simp only [h]))
                | (refine onPick_split (fun h => ?_) (fun h => ?_) <;> (try simp only [h])))
            all_goals trace_state
      unfold appR at key
      split at key
      · split at key
        · exact key _ _ _ _ rfl
        · exact key _ _ _ _ rfl
      · exact key _ _ _ _ rfl
theorem law6 (x0 x1 : D) (h0 : Typed logSh x0) (h1 : Typed (.st (.cons .str (.cons .str .nil))) x1) : Fn prog 6 [x0, x1] (fun rs => rs = [.bool true]) := by
  obtain ⟨_, rfl, _, _, rfl, ⟨d, rfl, hd⟩, _, _, rfl, ⟨p, rfl, hp⟩, _, _, rfl, ⟨k, rfl, _⟩, rfl⟩ := h0
  obtain ⟨_, rfl, _, _, rfl, ⟨c, rfl, hc⟩, _, _, rfl, ⟨r, rfl, hr⟩, rfl⟩ := h1
  exact law6_fn d p k c r hd hp hc hr
end Go.Pe.Tryd
