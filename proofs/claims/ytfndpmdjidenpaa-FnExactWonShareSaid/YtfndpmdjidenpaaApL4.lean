/- The law of WonShare, joined. -/
import Derived.Test.YtfndpmdjidenpaaAp13
set_option maxRecDepth 100000
set_option maxHeartbeats 4000000
set_option linter.all false
namespace Go.Pe.Try
open Go.Proofs.Try
theorem lawWon_fn (xs : List App)  (hm : xs.length ≤ maxLen) (hw : ∀ r ∈ xs, r.wf) : Fn prog 6 [.sl false 6 (appsD xs)] (fun rs => rs = [.bool true]) := by
  have hz := szAll_fn xs hm hw
  by_cases h : szL xs 1048576 < 0
  · have e : decide (szL xs 1048576 < 0) = true := decide_eq_true h
    refine Fn_of' (fn := f6) (by exact func6) c6 r6 (n := 49) (by rfl) (rv := [.tmp 2]) (by rfl) (by simp) ?_
    unfold m6
    repeat' (first
        | (simp only [e, ↓wA, ↓wC, wB, frzBE, frzBS, Nat.reduceEqDiff, Nat.reduceAdd, Nat.reduceSub, reduceIte, reduceCtorEq, Nat.reduceBEq, Nat.reduceLT, decide_true])
        | (refine call_det (hz) rfl rfl ?_)
        | (refine callP_det (hz) rfl rfl ?_)
        | (refine execG_split (fun h => ?_) (fun h => ?_) <;> simp only [h])
        | (refine execC_split (fun h => ?_) (fun h => ?_) <;> (try simp only [h]))
        | (refine onPick_split (fun h => ?_) (fun h => ?_) <;> (try simp only [h])))
  · have e : decide (szL xs 1048576 < 0) = false := decide_eq_false h
    obtain ⟨hlen, hx⟩ := szL_ok (Int.not_lt.1 h)
    have hS := specWon_fn xs hlen hx
    have hI := won_fn xs hlen hx
    have hE := eqAppealS_refl xs hlen hx
    have hT := toAppealS_fn xs hlen hx
    obtain ⟨a, b, c, hf⟩ := wonR_form xs
    rw [hf] at hS hI
    clear hf
    refine Fn_of' (fn := f6) (by exact func6) c6 r6 (n := 49) (by rfl) (rv := [.tmp 2]) (by rfl) (by simp) ?_
    unfold m6
    repeat' (first
        | (simp only [e, ↓wA, ↓wC, wB, frzBE, frzBS, Nat.reduceEqDiff, Nat.reduceAdd, Nat.reduceSub, reduceIte, reduceCtorEq, Nat.reduceBEq, Nat.reduceLT, decide_true])
        | (refine call_det (hz) rfl rfl ?_)
        | (refine callP_det (hz) rfl rfl ?_)
        | (refine call_det (hT) rfl rfl ?_)
        | (refine callP_det (hT) rfl rfl ?_)
        | (refine call_det hS (by simp [argsD, argD, valOf, D.unown, apps_unown]) rfl ?_)
        | (refine call_det hI (by simp [argsD, argD, valOf, D.unown, apps_unown]) rfl ?_)
        | (refine call_det hE (by simp [argsD, argD, valOf, D.unown, apps_unown]) rfl ?_)
        | (refine execG_split (fun h => ?_) (fun h => ?_) <;> simp only [h])
        | (refine execC_split (fun h => ?_) (fun h => ?_) <;> (try simp only [h]))
        | (refine onPick_split (fun h => ?_) (fun h => ?_) <;> (try simp only [h])))
    all_goals simp_all
theorem lawWon (x0 : D) (h0 : Typed (.sl 6 appSh) x0) : Fn prog 6 [x0] (fun rs => rs = [.bool true]) := by
  obtain ⟨xs, rfl, hm, hw⟩ := apps_of x0 h0
  exact lawWon_fn xs hm hw
end Go.Pe.Try
