/- What a valid record is, and a record among the laws' helpers, walked. -/
import Derived.Test.YtdjfaadhfcidnaaDoorLg1
import Derived.Test.YtdjfaadhfcidnaaDoorShelf
set_option maxRecDepth 100000
set_option maxHeartbeats 4000000
set_option linter.all false
namespace Go.Pe.Tryd
open Go.Proofs.Tryd
theorem indexByte_has : ∀ (s : List UInt8) (c : UInt8), decide (0 ≤ Go.Lib.indexByte s c) = s.contains c
  | [], c => by simp [Go.Lib.indexByte]
  | b :: s, c => by
    have ih := indexByte_has s c
    have hge := Go.Lib.indexByte_ge s c
    unfold Go.Lib.indexByte
    by_cases h : b = c
    · simp [h]
    · have h1 : (b == c) = false := by simpa using h
      have h2 : (b :: s).contains c = s.contains c := by simp [List.contains_cons, h, eq_comm]
      simp only [h1, Bool.false_eq_true, if_false, h2]
      rw [← ih]
      split
      · rename_i h3
        have : Go.Lib.indexByte s c = -1 := by simpa using h3
        simp [this]
      · rename_i h3
        have : Go.Lib.indexByte s c ≠ -1 := by simpa using h3
        apply decide_eq_decide.2
        omega
theorem contains_fn (s : List UInt8) (c : UInt8) : Fn prog 62 [.str s, .str [c]] (fun rs => rs = [.bool (s.contains c)]) :=
  Fn_lib rfl rfl fun w _ => (Go.Proofs.Tryd.strings_Contains_one ⟨s.toArray⟩ c w).mono (by
    rintro e w' ⟨rfl, rfl⟩
    refine ⟨?_, Ext.refl _⟩
    rw [← indexByte_has]
    simp [retV])
theorem isValidRecord_fn (c r : List UInt8) (hc : c.length ≤ maxLen) (hr : r.length ≤ maxLen) : Fn prog 39 [recD c r] (fun rs => rs = [.bool (recOK c r)]) := by
  refine Fn_of' (fn := f39) (by exact func39) c39 r39 (n := 29) (by rfl) (rv := [.tmp 2]) (by rfl) (by simp) ?_
  unfold m39
  simp only [recD]
  repeat' (first
      | (simp only [↓wA, ↓wC, wB, Nat.reduceEqDiff, Nat.reduceAdd, Nat.reduceSub, reduceIte, reduceCtorEq, Nat.reduceBEq, Nat.reduceLT, decide_true, sz27])
      | (refine call_det (within_fn _ _ _) rfl rfl ?_)
      | (refine callP_det (within_fn _ _ _) rfl rfl ?_)
      | (refine call_det (isPlain_fn _ hc) rfl rfl ?_)
      | (refine callP_det (isPlain_fn _ hc) rfl rfl ?_)
      | (refine call_det (isPlain_fn _ hr) rfl rfl ?_)
      | (refine callP_det (isPlain_fn _ hr) rfl rfl ?_)
      | (refine call_det (contains_fn c 64) rfl rfl ?_)
      | (refine callP_det (contains_fn c 64) rfl rfl ?_)
      | (refine execG_split (fun h => ?_) (fun h => ?_) <;> simp only [h])
      | (refine execC_split (fun h => ?_) (fun h => ?_) <;> (try simp only [h]))
      | (refine onPick_split (fun h => ?_) (fun h => ?_) <;> (try simp only [h])))
  all_goals (cases hpc : plain c <;> cases hpr : plain r <;> simp_all [recOK, within] <;> omega)
theorem toLogRecord_fn (c r : List UInt8) : Fn prog 15 [recD c r] (fun rs => rs = [recD c r]) := by
  refine Fn_of' (fn := f15) (by exact func15) c15 r15 (n := 11) (by rfl) (rv := [.cell 2 27]) (by rfl) (by simp) ?_
  unfold m15
  simp only [recD]
  repeat' (first
      | (simp only [↓wA, ↓wC, wB, Nat.reduceEqDiff, Nat.reduceAdd, Nat.reduceSub, reduceIte, reduceCtorEq, Nat.reduceBEq, Nat.reduceLT, decide_true, sz27])
      | (refine execG_split (fun h => ?_) (fun h => ?_) <;> simp only [h])
      | (refine execC_split (fun h => ?_) (fun h => ?_) <;> (try simp only [h]))
      | (refine onPick_split (fun h => ?_) (fun h => ?_) <;> (try simp only [h])))
theorem szLogRecord_fn (c r : List UInt8) (hc : c.length ≤ maxLen) (hr : r.length ≤ maxLen) : Fn prog 13 [recD c r, .int .i64 1048576] (fun rs => rs = [.int .i64 (if (c.length : Int) + r.length ≤ 1048576 then 1048576 - c.length - r.length else -1)]) := by
  rw [maxLen_eq] at hc hr
  refine Fn_of' (fn := f13) (by exact func13) c13 r13 (n := 20) (by rfl) (rv := [.tmp 4]) (by rfl) (by simp) ?_
  unfold m13
  simp only [recD]
  repeat' (first
      | (simp only [↓wA, ↓wC, wB, Nat.reduceEqDiff, Nat.reduceAdd, Nat.reduceSub, reduceIte, reduceCtorEq, Nat.reduceBEq, Nat.reduceLT, decide_true, sz27])
      | (refine onI_bare (by simp only [InR]; omega) ?_)
      | (refine onI_bare (by simp only [InR]; simp only [decide_eq_true_eq, decide_eq_false_iff_not] at *; omega) ?_)
      | (refine execG_split (fun h => ?_) (fun h => ?_) <;> simp only [h])
      | (refine execC_split (fun h => ?_) (fun h => ?_) <;> (try simp only [h]))
      | (refine onPick_split (fun h => ?_) (fun h => ?_) <;> (try simp only [h])))
  all_goals (simp only [decide_eq_true_eq, decide_eq_false_iff_not] at *; first | (rw [if_pos (by omega)]) | (rw [if_neg (by omega)]))
end Go.Pe.Tryd
