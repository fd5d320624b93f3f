/- The law of IsValidRecord, walked. -/
import Derived.Test.YtdjfaadhfcidnaaLg1
import Derived.Test.YtdjfaadhfcidnaaShelf
set_option maxRecDepth 100000
set_option maxHeartbeats 4000000
set_option linter.all false
namespace Go.Pe.Try
open Go.Proofs.Try
theorem indexByte_has : ∀ (s : List UInt8) (c : UInt8), decide (0 ≤ Go.Lib.indexByte s c) = s.contains c
  | [], c => by simp [Go.Lib.indexByte]
  | b :: s, c => by
    have ih := indexByte_has s c
    have hge := Go.Lib.indexByte_ge s c
    unfold Go.Lib.indexByte
    by_cases h : b = c
    · simp [h]
    · have h1 : (b == c) = false := by simpa using h
      have h2 : (b :: s).contains c = s.contains c := by simp [List.contains_cons, h, eq_comm]
      simp only [h1, Bool.false_eq_true, if_false, h2]
      rw [← ih]
      split
      · rename_i h3
        have : Go.Lib.indexByte s c = -1 := by simpa using h3
        simp [this]
      · rename_i h3
        have : Go.Lib.indexByte s c ≠ -1 := by simpa using h3
        apply decide_eq_decide.2
        omega
theorem contains_fn (s : List UInt8) (c : UInt8) : Fn prog 11 [.str s, .str [c]] (fun rs => rs = [.bool (s.contains c)]) :=
  Fn_lib rfl rfl fun w _ => (Go.Proofs.Try.strings_Contains_one ⟨s.toArray⟩ c w).mono (by
    rintro e w' ⟨rfl, rfl⟩
    refine ⟨?_, Ext.refl _⟩
    rw [← indexByte_has]
    simp [retV])
theorem isValidRecord_fn (c r : List UInt8) (hc : c.length ≤ maxLen) (hr : r.length ≤ maxLen) : Fn prog 7 [recD c r] (fun rs => rs = [.bool (recOK c r)]) := by
  refine Fn_of' (fn := f7) (by exact func7) c7 r7 (n := 29) (by rfl) (rv := [.tmp 2]) (by rfl) (by simp) ?_
  unfold m7
  simp only [recD]
  repeat' (first
      | (simp only [↓wA, ↓wC, wB, Nat.reduceEqDiff, Nat.reduceAdd, Nat.reduceSub, reduceIte, reduceCtorEq, Nat.reduceBEq, Nat.reduceLT, decide_true, sz26])
      | (refine call_det (within_fn _ _ _) rfl rfl ?_)
      | (refine callP_det (within_fn _ _ _) rfl rfl ?_)
      | (refine call_det (isPlain_fn _ hc) rfl rfl ?_)
      | (refine callP_det (isPlain_fn _ hc) rfl rfl ?_)
      | (refine call_det (isPlain_fn _ hr) rfl rfl ?_)
      | (refine callP_det (isPlain_fn _ hr) rfl rfl ?_)
      | (refine call_det (contains_fn c 64) rfl rfl ?_)
      | (refine callP_det (contains_fn c 64) rfl rfl ?_)
      | (refine execG_split (fun h => ?_) (fun h => ?_) <;> simp only [h])
      | (refine execC_split (fun h => ?_) (fun h => ?_) <;> (try simp only [h]))
      | (refine onPick_split (fun h => ?_) (fun h => ?_) <;> (try simp only [h])))
  all_goals (cases hpc : plain c <;> cases hpr : plain r <;> simp_all [recOK, within] <;> omega)
theorem specIsValidRecord_fn (c r : List UInt8) (hc : c.length ≤ maxLen) (hr : r.length ≤ maxLen) : Fn prog 5 [recD c r] (fun rs => rs = [.bool (recOK c r)]) := by
  refine Fn_of' (fn := f5) (by exact func5) c5 r5 (n := 5) (by rfl) (rv := [.tmp 2]) (by rfl) (by simp) ?_
  unfold m5
  simp only [recD]
  repeat' (first
      | (simp only [↓wA, ↓wC, wB, Nat.reduceEqDiff, Nat.reduceAdd, Nat.reduceSub, reduceIte, reduceCtorEq, Nat.reduceBEq, Nat.reduceLT, decide_true, sz26])
      | (refine call_det (l27Good_fn c r hc hr) rfl rfl ?_)
      | (refine callP_det (l27Good_fn c r hc hr) rfl rfl ?_)
      | (refine execG_split (fun h => ?_) (fun h => ?_) <;> simp only [h])
      | (refine execC_split (fun h => ?_) (fun h => ?_) <;> (try simp only [h]))
      | (refine onPick_split (fun h => ?_) (fun h => ?_) <;> (try simp only [h])))
theorem toLogRecord_fn (c r : List UInt8) : Fn prog 6 [recD c r] (fun rs => rs = [recD c r]) := by
  refine Fn_of' (fn := f6) (by exact func6) c6 r6 (n := 11) (by rfl) (rv := [.cell 2 26]) (by rfl) (by simp) ?_
  unfold m6
  simp only [recD]
  repeat' (first
      | (simp only [↓wA, ↓wC, wB, Nat.reduceEqDiff, Nat.reduceAdd, Nat.reduceSub, reduceIte, reduceCtorEq, Nat.reduceBEq, Nat.reduceLT, decide_true, sz26])
      | (refine execG_split (fun h => ?_) (fun h => ?_) <;> simp only [h])
      | (refine execC_split (fun h => ?_) (fun h => ?_) <;> (try simp only [h]))
      | (refine onPick_split (fun h => ?_) (fun h => ?_) <;> (try simp only [h])))
theorem szLogRecord_fn (c r : List UInt8) (hc : c.length ≤ maxLen) (hr : r.length ≤ maxLen) : Fn prog 4 [recD c r, .int .i64 1048576] (fun rs => rs = [.int .i64 (if (c.length : Int) + r.length ≤ 1048576 then 1048576 - c.length - r.length else -1)]) := by
  rw [maxLen_eq] at hc hr
  refine Fn_of' (fn := f4) (by exact func4) c4 r4 (n := 20) (by rfl) (rv := [.tmp 4]) (by rfl) (by simp) ?_
  unfold m4
  simp only [recD]
  repeat' (first
      | (simp only [↓wA, ↓wC, wB, Nat.reduceEqDiff, Nat.reduceAdd, Nat.reduceSub, reduceIte, reduceCtorEq, Nat.reduceBEq, Nat.reduceLT, decide_true, sz26])
      | (refine onI_bare (by simp only [InR]; omega) ?_)
      | (refine onI_bare (by simp only [InR]; simp only [decide_eq_true_eq, decide_eq_false_iff_not] at *; omega) ?_)
      | (refine execG_split (fun h => ?_) (fun h => ?_) <;> simp only [h])
      | (refine execC_split (fun h => ?_) (fun h => ?_) <;> (try simp only [h]))
      | (refine onPick_split (fun h => ?_) (fun h => ?_) <;> (try simp only [h])))
  all_goals (simp only [decide_eq_true_eq, decide_eq_false_iff_not] at *; first | (rw [if_pos (by omega)]) | (rw [if_neg (by omega)]))
theorem law3_fn (c r : List UInt8) (hc : c.length ≤ maxLen) (hr : r.length ≤ maxLen) : Fn prog 3 [recD c r] (fun rs => rs = [.bool true]) := by
  refine Fn_of' (fn := f3) (by exact func3) c3 r3 (n := 20) (by rfl) (rv := [.tmp 2]) (by rfl) (by simp) ?_
  unfold m3
  simp only [recD]
  repeat' (first
      | (simp only [recD, ↓wA, ↓wC, wB, Nat.reduceEqDiff, Nat.reduceAdd, Nat.reduceSub, reduceIte, reduceCtorEq, Nat.reduceBEq, Nat.reduceLT, decide_true, sz26])
      | (refine call_det (szLogRecord_fn c r hc hr) rfl rfl ?_)
      | (refine callP_det (szLogRecord_fn c r hc hr) rfl rfl ?_)
      | (refine call_det (toLogRecord_fn c r) rfl rfl ?_)
      | (refine callP_det (toLogRecord_fn c r) rfl rfl ?_)
      | (refine call_det (specIsValidRecord_fn c r hc hr) rfl rfl ?_)
      | (refine callP_det (specIsValidRecord_fn c r hc hr) rfl rfl ?_)
      | (refine call_det (isValidRecord_fn c r hc hr) rfl rfl ?_)
      | (refine callP_det (isValidRecord_fn c r hc hr) rfl rfl ?_)
      | (refine execG_split (fun h => ?_) (fun h => ?_) <;> simp only [h])
      | (refine execC_split (fun h => ?_) (fun h => ?_) <;> (try simp only [h]))
      | (refine onPick_split (fun h => ?_) (fun h => ?_) <;> (try simp only [h])))
  all_goals simp_all
theorem law3 (x0 : D) (h0 : Typed (.st (.cons .str (.cons .str .nil))) x0) : Fn prog 3 [x0] (fun rs => rs = [.bool true]) := by
  obtain ⟨_, rfl, _, _, rfl, ⟨c, rfl, hc⟩, _, _, rfl, ⟨r, rfl, hr⟩, rfl⟩ := h0
  exact law3_fn c r hc hr
end Go.Pe.Try
