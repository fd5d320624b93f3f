/- The law of LapseAppeals, joined. -/
import Derived.Test.YtfndpmdjidenpaaAp20
set_option maxRecDepth 100000
set_option maxHeartbeats 4000000
set_option linter.all false
namespace Go.Pe.Try
open Go.Proofs.Try
theorem lawLapse_of (xs ys : List App) (v : List Int) (day : Int) (c : Bool) (hm : xs.length ≤ maxLen) (hw : ∀ r ∈ xs, r.wf) (h : ¬ szL xs 1048576 < 0) (hyl : ys.length ≤ 1048576) (hyx : ∀ y ∈ ys, y.ok0) (hvl : v.length ≤ 1048576) (hS : Fn prog 29 [.sl false 6 (appsD xs), .int .i64 day] (fun rs => rs = [.sl false 6 (appsD ys), .sl false 1 (dl iD v), .bool c])) (hI : Fn prog 30 [.sl false 6 (appsD xs), .int .i64 day] (fun rs => rs = [.sl true 6 (dl App.o ys), .sl true 1 (dl iD v), .bool c])) :
    Fn prog 8 [.sl false 6 (appsD xs), .int .i64 day] (fun rs => rs = [.bool true]) := by
  have hz := szAll_fn xs hm hw
  have e : decide (szL xs 1048576 < 0) = false := decide_eq_false h
  obtain ⟨hlen, hx⟩ := szL_ok (Int.not_lt.1 h)
  have hE := eqAppealS_refl xs hlen hx
  have hEy := eqAppealS_refl ys hyl hyx
  have hEv := eqIntS_refl v hvl
  have hT := toAppealS_own xs hlen hx
  have bx := sumL_bd xs hx
  have by_ := sumL_bd ys hyx
  have hMx := markAppealS_fn xs 1 (by omega) (by omega) hlen hx
  have hMy := markAppealS_fn ys 1 (by omega) (by omega) hyl hyx
  have hMv := markI_fn v (1 + sumL ys) (by omega) (by omega) hvl
  have hH := heldAppealS_fn ys 1 (by omega) (by omega) hyl hyx
  have hHv := heldI_fn v.length (1 + sumL ys) (by omega) (by omega) hvl
  have n1 : decide (1 + sumL xs < 0) = false := decide_eq_false (by omega)
  have n2 : decide (1 + sumL ys < 0) = false := decide_eq_false (by omega)
  have n3 : decide (1 + sumL ys + (v.length : Int) < 0) = false := decide_eq_false (by omega)
  refine Fn_of' (fn := f8) (by exact func8) c8 r8 (n := 138) (by rfl) (rv := [.tmp 4]) (by rfl) (by simp) ?_
  unfold m8
  repeat' (first
      | (simp only [e, ↓wA, ↓wC, wB, frzBE, frzBS, Nat.reduceEqDiff, Nat.reduceAdd, Nat.reduceSub, reduceIte, reduceCtorEq, Nat.reduceBEq, Nat.reduceLT, decide_true])
      | (refine call_det (hz) rfl rfl ?_)
      | (refine callP_det (hz) rfl rfl ?_)
      | (refine call_det (hT) rfl rfl ?_)
      | (refine callP_det (hT) rfl rfl ?_)
      | (refine execG_split (fun h => ?_) (fun h => ?_) <;> simp only [h])
      | (refine execC_split (fun h => ?_) (fun h => ?_) <;> (try simp only [h]))
      | (refine onPick_split (fun h => ?_) (fun h => ?_) <;> (try simp only [h])))
  refine call_frz 0 ?_
  simp only [frz1, frzE, frzS, D.unown, dlo_unown, ↓wA, ↓wC, wB, frzBE, frzBS, Nat.reduceEqDiff, Nat.reduceAdd, Nat.reduceSub, reduceIte, reduceCtorEq, Nat.reduceBEq, Nat.reduceLT, decide_true]
  refine call_det hS rfl rfl ?_
  have hI' : Fn prog 30 [.sl false 6 (dl App.o xs).unown, .int .i64 day] (fun rs => rs = [.sl true 6 (dl App.o ys), .sl true 1 (dl iD v), .bool c]) := by rw [dlo_unown]; exact hI
  have hE' : Fn prog 16 [.sl false 6 (dl App.o xs).unown, .sl false 6 (dl App.o xs).unown] (fun rs => rs = [.bool true]) := by rw [dlo_unown]; exact hE
  have hEy' : Fn prog 16 [.sl false 6 (dl App.o ys).unown, .sl false 6 (appsD ys)] (fun rs => rs = [.bool true]) := by rw [dlo_unown]; exact hEy
  have hEv' : Fn prog 25 [.sl false 1 (dl iD v).unown, .sl false 1 (dl iD v)] (fun rs => rs = [.bool true]) := by rw [ints_unown]; exact hEv
  have hH' : Fn prog 31 [.sl false 6 (dl App.o (markL 1 ys)).unown, .int .i64 1] (fun rs => rs = [.int .i64 (1 + sumL ys)]) := by rw [dlo_unown]; exact hH
  have hHv' : Fn prog 28 [.sl false 1 (dl iD (ups v.length (1 + sumL ys))).unown, .int .i64 (1 + sumL ys)] (fun rs => rs = [.int .i64 (1 + sumL ys + v.length)]) := by rw [ints_unown]; exact hHv
  have hoA : (([D.sl true 6 (dl App.o ys), .sl true 1 (dl iD v), .bool c]).all D.allOwn) = true := by simp [D.allOwn, dlo_own, dl_allOwn iD_allOwn]
  repeat' (first
      | (simp only [ints_noOwn, e, n1, n2, n3, apps_noOwn, ↓wA, ↓wC, wB, frzBE, frzBS, Nat.reduceEqDiff, Nat.reduceAdd, Nat.reduceSub, reduceIte, reduceCtorEq, Nat.reduceBEq, Nat.reduceLT, decide_true])
      | (refine call_det (hT) rfl rfl ?_)
      | (refine callP_det (hT) rfl rfl ?_)
      | (refine call_det hI' rfl (by rw [hoA, Bool.or_true]) ?_)
      | (refine call_det hE' rfl rfl ?_)
      | (refine call_det hEy' rfl rfl ?_)
      | (refine call_det hEv' rfl rfl ?_)
      | (refine callM_det hMx rfl rfl rfl ?_)
      | (refine callM_det hMy rfl rfl rfl ?_)
      | (refine callM_det hMv rfl rfl rfl ?_)
      | (refine call_det hH' rfl rfl ?_)
      | (refine call_det hHv' rfl rfl ?_)
      | (refine execG_split (fun h => ?_) (fun h => ?_) <;> simp only [h])
      | (refine execC_split (fun h => ?_) (fun h => ?_) <;> (try simp only [h]))
      | (refine onPick_split (fun h => ?_) (fun h => ?_) <;> (try simp only [h])))
  all_goals simp_all
theorem lawLapse_fn (xs : List App) (day : Int) (hm : xs.length ≤ maxLen) (hw : ∀ r ∈ xs, r.wf) : Fn prog 8 [.sl false 6 (appsD xs), .int .i64 day] (fun rs => rs = [.bool true]) := by
  by_cases h : szL xs 1048576 < 0
  · have hz := szAll_fn xs hm hw
    have e : decide (szL xs 1048576 < 0) = true := decide_eq_true h
    refine Fn_of' (fn := f8) (by exact func8) c8 r8 (n := 138) (by rfl) (rv := [.tmp 4]) (by rfl) (by simp) ?_
    unfold m8
    repeat' (first
        | (simp only [e, ↓wA, ↓wC, wB, frzBE, frzBS, Nat.reduceEqDiff, Nat.reduceAdd, Nat.reduceSub, reduceIte, reduceCtorEq, Nat.reduceBEq, Nat.reduceLT, decide_true])
        | (refine call_det (hz) rfl rfl ?_)
        | (refine callP_det (hz) rfl rfl ?_)
        | (refine execG_split (fun h => ?_) (fun h => ?_) <;> simp only [h])
        | (refine execC_split (fun h => ?_) (fun h => ?_) <;> (try simp only [h]))
        | (refine onPick_split (fun h => ?_) (fun h => ?_) <;> (try simp only [h])))
  · obtain ⟨hlen, hx⟩ := szL_ok (Int.not_lt.1 h)
    have hS := Fn_unown (specLapse_fn xs day hlen hx)
    have hI := lapse_fn xs day hlen hx
    by_cases hc : (goodA xs && within day 0 20000) = true
    · rw [lapR, if_pos hc] at hS hI
      have hu : ([D.sl true 6 (dl App.d' (xs.map (lap day))), .sl true 1 (dl iD (lapIds day xs)), .bool true]).map D.unown = [.sl false 6 (appsD (xs.map (lap day))), .sl false 1 (dl iD (lapIds day xs)), .bool true] := by simp [D.unown, apps_unown, ints_unown]
      rw [hu] at hS
      refine lawLapse_of xs (xs.map (lap day)) (lapIds day xs) day true hm hw h (by simp; omega) (fun y hy => ?_) ?_ hS hI
      · rw [List.mem_map] at hy
        obtain ⟨x, hx', rfl⟩ := hy
        have := hx x hx'
        unfold lap
        split
        · exact this
        · exact this
      · simp only [lapIds, List.length_map]
        exact Nat.le_trans (List.length_filter_le _ _) hlen
    · rw [lapR, if_neg hc] at hS hI
      exact lawLapse_of xs [] [] day false hm hw h (by simp) (by simp) (by simp) hS hI
theorem lawLapse (x0 x1 : D) (h0 : Typed (.sl 6 appSh) x0) (h1 : Typed (.int .i64) x1) : Fn prog 8 [x0, x1] (fun rs => rs = [.bool true]) := by
  obtain ⟨xs, rfl, hm, hw⟩ := apps_of x0 h0
  obtain ⟨day, rfl, _⟩ := h1
  exact lawLapse_fn xs day hm hw
end Go.Pe.Try
