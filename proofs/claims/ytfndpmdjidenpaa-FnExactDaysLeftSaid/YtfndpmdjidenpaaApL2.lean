/- The law of DaysLeft, joined. -/
import Derived.Test.YtfndpmdjidenpaaAp11
set_option maxRecDepth 100000
set_option maxHeartbeats 4000000
set_option linter.all false
namespace Go.Pe.Try
open Go.Proofs.Try
theorem daysR_form (xs : List App) (id day : Int) : ∃ a b, daysR xs id day = [.int .i64 a, .bool b] := by
  unfold daysR daysBad
  split
  · split
    · exact ⟨_, _, rfl⟩
    · exact ⟨_, _, rfl⟩
  · exact ⟨_, _, rfl⟩
theorem lawDays_fn (xs : List App) (id day : Int) (hm : xs.length ≤ maxLen) (hw : ∀ r ∈ xs, r.wf) : Fn prog 4 [.sl false 6 (appsD xs), .int .i64 id, .int .i64 day] (fun rs => rs = [.bool true]) := by
  have hz := szAll_fn xs hm hw
  by_cases h : szL xs 1048576 < 0
  · have e : decide (szL xs 1048576 < 0) = true := decide_eq_true h
    refine Fn_of' (fn := f4) (by exact func4) c4 r4 (n := 48) (by rfl) (rv := [.tmp 6]) (by rfl) (by simp) ?_
    unfold m4
    repeat' (first
        | (simp only [e, ↓wA, ↓wC, wB, frzBE, frzBS, Nat.reduceEqDiff, Nat.reduceAdd, Nat.reduceSub, reduceIte, reduceCtorEq, Nat.reduceBEq, Nat.reduceLT, decide_true])
        | (refine call_det (hz) rfl rfl ?_)
        | (refine callP_det (hz) rfl rfl ?_)
        | (refine execG_split (fun h => ?_) (fun h => ?_) <;> simp only [h])
        | (refine execC_split (fun h => ?_) (fun h => ?_) <;> (try simp only [h]))
        | (refine onPick_split (fun h => ?_) (fun h => ?_) <;> (try simp only [h])))
  · have e : decide (szL xs 1048576 < 0) = false := decide_eq_false h
    obtain ⟨hlen, hx⟩ := szL_ok (Int.not_lt.1 h)
    have hS := specDaysLeft_fn xs id day hlen hx
    have hI := daysLeft_fn xs id day hlen hx
    have hE := eqAppealS_refl xs hlen hx
    have hT := toAppealS_fn xs hlen hx
    obtain ⟨a, b, hf⟩ := daysR_form xs id day
    rw [hf] at hS hI
    clear hf
    refine Fn_of' (fn := f4) (by exact func4) c4 r4 (n := 48) (by rfl) (rv := [.tmp 6]) (by rfl) (by simp) ?_
    unfold m4
    repeat' (first
        | (simp only [e, ↓wA, ↓wC, wB, frzBE, frzBS, Nat.reduceEqDiff, Nat.reduceAdd, Nat.reduceSub, reduceIte, reduceCtorEq, Nat.reduceBEq, Nat.reduceLT, decide_true])
        | (refine call_det (hz) rfl rfl ?_)
        | (refine callP_det (hz) rfl rfl ?_)
        | (refine call_det (hT) rfl rfl ?_)
        | (refine callP_det (hT) rfl rfl ?_)
        | (refine call_det hS (by simp [argsD, argD, valOf, D.unown, apps_unown]) rfl ?_)
        | (refine call_det hI (by simp [argsD, argD, valOf, D.unown, apps_unown]) rfl ?_)
        | (refine call_det hE (by simp [argsD, argD, valOf, D.unown, apps_unown]) rfl ?_)
        | (refine execG_split (fun h => ?_) (fun h => ?_) <;> simp only [h])
        | (refine execC_split (fun h => ?_) (fun h => ?_) <;> (try simp only [h]))
        | (refine onPick_split (fun h => ?_) (fun h => ?_) <;> (try simp only [h])))
    all_goals simp_all
theorem lawDays (x0 x1 x2 : D) (h0 : Typed (.sl 6 appSh) x0) (h1 : Typed (.int .i64) x1) (h2 : Typed (.int .i64) x2) : Fn prog 4 [x0, x1, x2] (fun rs => rs = [.bool true]) := by
  obtain ⟨xs, rfl, hm, hw⟩ := apps_of x0 h0
  obtain ⟨id, rfl, _⟩ := h1
  obtain ⟨day, rfl, _⟩ := h2
  exact lawDays_fn xs id day hm hw
end Go.Pe.Try
