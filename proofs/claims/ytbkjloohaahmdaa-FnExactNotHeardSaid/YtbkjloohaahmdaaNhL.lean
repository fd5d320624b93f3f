/- The law of NotHeard, joined. -/
import Derived.Test.YtbkjloohaahmdaaNh2
set_option maxRecDepth 100000
set_option maxHeartbeats 4000000
set_option linter.all false
namespace Go.Pe.Try
open Go.Proofs.Try
theorem lawNot_of (xs : List App) (v : List Int) (id : Int) (c : Bool) (hm : xs.length ≤ maxLen) (hw : ∀ r ∈ xs, r.wf) (h : ¬ szL xs 1048576 < 0) (hvl : v.length ≤ 1048576) (hS : Fn prog 8 [.sl false 6 (appsD xs), .int .i64 id] (fun rs => rs = [.sl false 1 (dl iD v), .bool c])) (hI : Fn prog 10 [.sl false 6 (appsD xs), .int .i64 id] (fun rs => rs = [.sl true 1 (dl iD v), .bool c])) :
    Fn prog 3 [.sl false 6 (appsD xs), .int .i64 id] (fun rs => rs = [.bool true]) := by
  have hz := szAll_fn xs hm hw
  have e : decide (szL xs 1048576 < 0) = false := decide_eq_false h
  obtain ⟨hlen, hx⟩ := szL_ok (Int.not_lt.1 h)
  have hE := eqAppealS_refl xs hlen hx
  have hEv := eqIntS_refl v hvl
  have hT := toAppealS_own xs hlen hx
  have bx := sumL_bd xs hx
  have hMx := markAppealS_fn xs 1 (by omega) (by omega) hlen hx
  have hMv := markI_fn v 1 (by omega) (by omega) hvl
  have hHv := heldI_fn v.length 1 (by omega) (by omega) hvl
  have n1 : decide (1 + sumL xs < 0) = false := decide_eq_false (by omega)
  have n3 : decide (1 + (v.length : Int) < 0) = false := decide_eq_false (by omega)
  refine Fn_of' (fn := f3) (by exact func3) c3 r3 (n := 101) (by rfl) (rv := [.tmp 4]) (by rfl) (by simp) ?_
  unfold m3
  repeat' (first
      | (simp only [e, ↓wA, ↓wC, wB, frzBE, frzBS, Nat.reduceEqDiff, Nat.reduceAdd, Nat.reduceSub, reduceIte, reduceCtorEq, Nat.reduceBEq, Nat.reduceLT, decide_true])
      | (refine call_det (hz) rfl rfl ?_)
      | (refine callP_det (hz) rfl rfl ?_)
      | (refine call_det (hT) rfl rfl ?_)
      | (refine callP_det (hT) rfl rfl ?_)
      | (refine execG_split (fun h => ?_) (fun h => ?_) <;> simp only [h])
      | (refine execC_split (fun h => ?_) (fun h => ?_) <;> (try simp only [h]))
      | (refine onPick_split (fun h => ?_) (fun h => ?_) <;> (try simp only [h])))
  refine call_frz 0 ?_
  simp only [frz1, frzE, frzS, D.unown, dlo_unown, ↓wA, ↓wC, wB, frzBE, frzBS, Nat.reduceEqDiff, Nat.reduceAdd, Nat.reduceSub, reduceIte, reduceCtorEq, Nat.reduceBEq, Nat.reduceLT, decide_true]
  refine call_det hS rfl rfl ?_
  have hI' : Fn prog 10 [.sl false 6 (dl App.o xs).unown, .int .i64 id] (fun rs => rs = [.sl true 1 (dl iD v), .bool c]) := by rw [dlo_unown]; exact hI
  have hE' : Fn prog 12 [.sl false 6 (dl App.o xs).unown, .sl false 6 (dl App.o xs).unown] (fun rs => rs = [.bool true]) := by rw [dlo_unown]; exact hE
  have hEv' : Fn prog 11 [.sl false 1 (dl iD v).unown, .sl false 1 (dl iD v)] (fun rs => rs = [.bool true]) := by rw [ints_unown]; exact hEv
  have hHv' : Fn prog 15 [.sl false 1 (dl iD (ups v.length 1)).unown, .int .i64 1] (fun rs => rs = [.int .i64 (1 + v.length)]) := by rw [ints_unown]; exact hHv
  have hoA : (([D.sl true 1 (dl iD v), .bool c]).all D.allOwn) = true := by simp [D.allOwn, dl_allOwn iD_allOwn]
  repeat' (first
      | (simp only [ints_noOwn, e, n1, n3, ↓wA, ↓wC, wB, frzBE, frzBS, Nat.reduceEqDiff, Nat.reduceAdd, Nat.reduceSub, reduceIte, reduceCtorEq, Nat.reduceBEq, Nat.reduceLT, decide_true])
      | (refine call_det (hT) rfl rfl ?_)
      | (refine callP_det (hT) rfl rfl ?_)
      | (refine call_det hI' rfl (by rw [hoA, Bool.or_true]) ?_)
      | (refine call_det hE' rfl rfl ?_)
      | (refine call_det hEv' rfl rfl ?_)
      | (refine callM_det hMx rfl rfl rfl ?_)
      | (refine callM_det hMv rfl rfl rfl ?_)
      | (refine call_det hHv' rfl rfl ?_)
      | (refine execG_split (fun h => ?_) (fun h => ?_) <;> simp only [h])
      | (refine execC_split (fun h => ?_) (fun h => ?_) <;> (try simp only [h]))
      | (refine onPick_split (fun h => ?_) (fun h => ?_) <;> (try simp only [h])))
  all_goals simp_all
theorem lawNot_fn (xs : List App) (id : Int) (hm : xs.length ≤ maxLen) (hw : ∀ r ∈ xs, r.wf) : Fn prog 3 [.sl false 6 (appsD xs), .int .i64 id] (fun rs => rs = [.bool true]) := by
  by_cases h : szL xs 1048576 < 0
  · have hz := szAll_fn xs hm hw
    have e : decide (szL xs 1048576 < 0) = true := decide_eq_true h
    refine Fn_of' (fn := f3) (by exact func3) c3 r3 (n := 101) (by rfl) (rv := [.tmp 4]) (by rfl) (by simp) ?_
    unfold m3
    repeat' (first
        | (simp only [e, ↓wA, ↓wC, wB, frzBE, frzBS, Nat.reduceEqDiff, Nat.reduceAdd, Nat.reduceSub, reduceIte, reduceCtorEq, Nat.reduceBEq, Nat.reduceLT, decide_true])
        | (refine call_det (hz) rfl rfl ?_)
        | (refine callP_det (hz) rfl rfl ?_)
        | (refine execG_split (fun h => ?_) (fun h => ?_) <;> simp only [h])
        | (refine execC_split (fun h => ?_) (fun h => ?_) <;> (try simp only [h]))
        | (refine onPick_split (fun h => ?_) (fun h => ?_) <;> (try simp only [h])))
  · obtain ⟨hlen, hx⟩ := szL_ok (Int.not_lt.1 h)
    have hS := Fn_unown (specNotHeard_fn xs id hlen hx)
    have hI := notHeard_fn xs id hlen hx
    have hb : ∀ v, nhR xs id = some v → v.length ≤ 1048576 := by
      intro v hv
      unfold nhR at hv
      split at hv
      · rename_i x hr
        split at hv
        · injection hv with hv
          subst hv
          exact Nat.le_trans (List.length_filter_le _ _) (hx x (List.mem_of_getElem? hr)).1
        · cases hv
      · cases hv
    cases hR : nhR xs id with
    | some v =>
      rw [hR, intsR] at hS hI
      have hu : ([D.sl true 1 (dl iD v), .bool true]).map D.unown = [.sl false 1 (dl iD v), .bool true] := by simp [D.unown, ints_unown]
      rw [hu] at hS
      exact lawNot_of xs v id true hm hw h (hb v hR) hS hI
    | none =>
      rw [hR, intsR] at hS hI
      exact lawNot_of xs [] id false hm hw h (by simp) hS hI
theorem lawNot (x0 x1 : D) (h0 : Typed (.sl 6 appSh) x0) (h1 : Typed (.int .i64) x1) : Fn prog 3 [x0, x1] (fun rs => rs = [.bool true]) := by
  obtain ⟨xs, rfl, hm, hw⟩ := apps_of x0 h0
  obtain ⟨id, rfl, _⟩ := h1
  exact lawNot_fn xs id hm hw
end Go.Pe.Try
