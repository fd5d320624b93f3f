/- The law of NewAppeal, joined. -/
import Derived.Test.YtfndpmdjidenpaaAp22
set_option maxRecDepth 100000
set_option maxHeartbeats 4000000
set_option linter.all false
namespace Go.Pe.Try
open Go.Proofs.Try
theorem lawNew_of (xs ys : List App) (a : List Int) (q d m : Int) (c : Bool) (hm : xs.length ≤ maxLen) (hw : ∀ r ∈ xs, r.wf) (h : ¬ szL xs 1048576 < 0) (ha : a.length ≤ 1048576) (hyl : ys.length ≤ 1048576) (hyx : ∀ y ∈ ys, y.ok0) (hS : Fn prog 32 [.sl false 6 (appsD xs), .int .i64 q, .int .i64 d, .sl false 1 (dl iD a)] (fun rs => rs = [.sl false 6 (appsD ys), .int .i64 m, .bool c])) (hI : Fn prog 34 [.sl false 6 (appsD xs), .int .i64 q, .int .i64 d, .sl false 1 (dl iD a)] (fun rs => rs = [.sl true 6 (dl App.o ys), .int .i64 m, .bool c])) :
    Fn prog 9 [.sl false 6 (appsD xs), .int .i64 q, .int .i64 d, .sl false 1 (dl iD a)] (fun rs => rs = [.bool true]) := by
  have hz := szAll_fn xs hm hw
  have e : decide (szL xs 1048576 < 0) = false := decide_eq_false h
  have e0 : decide (1048576 < (a.length : Int)) = false := decide_eq_false (by omega)
  obtain ⟨hlen, hx⟩ := szL_ok (Int.not_lt.1 h)
  have hE := eqAppealS_refl xs hlen hx
  have hEy := eqAppealS_refl ys hyl hyx
  have hEv := eqIntS_refl a ha
  have hT := toAppealS_own xs hlen hx
  have hTi := toIntS_own a ha
  have bx := sumL_bd xs hx
  have by_ := sumL_bd ys hyx
  have hMx := markAppealS_fn xs 1 (by omega) (by omega) hlen hx
  have hMy := markAppealS_fn ys 1 (by omega) (by omega) hyl hyx
  have hMv := markI_fn a (1 + sumL xs) (by omega) (by omega) ha
  have hH := heldAppealS_fn ys 1 (by omega) (by omega) hyl hyx
  have n1 : decide (1 + sumL xs + (a.length : Int) < 0) = false := decide_eq_false (by omega)
  have n2 : decide (1 + sumL ys < 0) = false := decide_eq_false (by omega)
  refine Fn_of' (fn := f9) (by exact func9) c9 r9 (n := 148) (by rfl) (rv := [.tmp 8]) (by rfl) (by simp) ?_
  unfold m9
  repeat' (first
      | (simp only [dl_len, e, e0, ↓wA, ↓wC, wB, frzBE, frzBS, Nat.reduceEqDiff, Nat.reduceAdd, Nat.reduceSub, reduceIte, reduceCtorEq, Nat.reduceBEq, Nat.reduceLT, decide_true])
      | (refine call_det (hz) rfl rfl ?_)
      | (refine callP_det (hz) rfl rfl ?_)
      | (refine call_det (hT) rfl rfl ?_)
      | (refine callP_det (hT) rfl rfl ?_)
      | (refine call_det (hTi) rfl rfl ?_)
      | (refine callP_det (hTi) rfl rfl ?_)
      | (refine execG_split (fun h => ?_) (fun h => ?_) <;> simp only [h])
      | (refine execC_split (fun h => ?_) (fun h => ?_) <;> (try simp only [h]))
      | (refine onPick_split (fun h => ?_) (fun h => ?_) <;> (try simp only [h])))
  refine call_frz 0 ?_
  simp only [frz1, frzE, frzS, D.unown, dlo_unown, ints_unown, ↓wA, ↓wC, wB, frzBE, frzBS, Nat.reduceEqDiff, Nat.reduceAdd, Nat.reduceSub, reduceIte, reduceCtorEq, Nat.reduceBEq, Nat.reduceLT, decide_true]
  refine call_frz 1 ?_
  simp only [frz1, frzE, frzS, D.unown, dlo_unown, ints_unown, ↓wA, ↓wC, wB, frzBE, frzBS, Nat.reduceEqDiff, Nat.reduceAdd, Nat.reduceSub, reduceIte, reduceCtorEq, Nat.reduceBEq, Nat.reduceLT, decide_true]
  refine call_det hS rfl rfl ?_
  have hI' : Fn prog 34 [.sl false 6 (dl App.o xs).unown, .int .i64 q, .int .i64 d, .sl false 1 (dl iD a).unown] (fun rs => rs = [.sl true 6 (dl App.o ys), .int .i64 m, .bool c]) := by rw [dlo_unown, ints_unown]; exact hI
  have hE' : Fn prog 16 [.sl false 6 (dl App.o xs).unown, .sl false 6 (dl App.o xs).unown] (fun rs => rs = [.bool true]) := by rw [dlo_unown]; exact hE
  have hEy' : Fn prog 16 [.sl false 6 (dl App.o ys).unown, .sl false 6 (appsD ys)] (fun rs => rs = [.bool true]) := by rw [dlo_unown]; exact hEy
  have hEv' : Fn prog 25 [.sl false 1 (dl iD a).unown, .sl false 1 (dl iD a).unown] (fun rs => rs = [.bool true]) := by rw [ints_unown]; exact hEv
  have hH' : Fn prog 31 [.sl false 6 (dl App.o (markL 1 ys)).unown, .int .i64 1] (fun rs => rs = [.int .i64 (1 + sumL ys)]) := by rw [dlo_unown]; exact hH
  have hoA : (([D.sl true 6 (dl App.o ys), .int .i64 m, .bool c]).all D.allOwn) = true := by simp [D.allOwn, dlo_own]
  repeat' (first
      | (simp only [dl_len, ints_noOwn, e, e0, n1, n2, apps_noOwn, ↓wA, ↓wC, wB, frzBE, frzBS, Nat.reduceEqDiff, Nat.reduceAdd, Nat.reduceSub, reduceIte, reduceCtorEq, Nat.reduceBEq, Nat.reduceLT, decide_true])
      | (refine call_det (hT) rfl rfl ?_)
      | (refine callP_det (hT) rfl rfl ?_)
      | (refine call_det (hTi) rfl rfl ?_)
      | (refine callP_det (hTi) rfl rfl ?_)
      | (refine call_det hI' rfl (by rw [hoA, Bool.or_true]) ?_)
      | (refine call_det hE' rfl rfl ?_)
      | (refine call_det hEy' rfl rfl ?_)
      | (refine call_det hEv' rfl rfl ?_)
      | (refine callM_det hMx rfl rfl rfl ?_)
      | (refine callM_det hMy rfl rfl rfl ?_)
      | (refine callM_det hMv rfl rfl rfl ?_)
      | (refine call_det hH' rfl rfl ?_)
      | (refine execG_split (fun h => ?_) (fun h => ?_) <;> simp only [h])
      | (refine execC_split (fun h => ?_) (fun h => ?_) <;> (try simp only [h]))
      | (refine onPick_split (fun h => ?_) (fun h => ?_) <;> (try simp only [h])))
  all_goals simp_all
theorem lawNew_fn (xs : List App) (q d : Int) (a : List Int) (hm : xs.length ≤ maxLen) (hw : ∀ r ∈ xs, r.wf) : Fn prog 9 [.sl false 6 (appsD xs), .int .i64 q, .int .i64 d, .sl false 1 (dl iD a)] (fun rs => rs = [.bool true]) := by
  by_cases ha : a.length ≤ 1048576
  · by_cases h : szL xs 1048576 < 0
    · have hz := szAll_fn xs hm hw
      have e : decide (szL xs 1048576 < 0) = true := decide_eq_true h
      have e0 : decide (1048576 < (a.length : Int)) = false := decide_eq_false (by omega)
      refine Fn_of' (fn := f9) (by exact func9) c9 r9 (n := 148) (by rfl) (rv := [.tmp 8]) (by rfl) (by simp) ?_
      unfold m9
      repeat' (first
          | (simp only [dl_len, e0, e, ↓wA, ↓wC, wB, frzBE, frzBS, Nat.reduceEqDiff, Nat.reduceAdd, Nat.reduceSub, reduceIte, reduceCtorEq, Nat.reduceBEq, Nat.reduceLT, decide_true])
          | (refine call_det (hz) rfl rfl ?_)
          | (refine callP_det (hz) rfl rfl ?_)
          | (refine execG_split (fun h => ?_) (fun h => ?_) <;> simp only [h])
          | (refine execC_split (fun h => ?_) (fun h => ?_) <;> (try simp only [h]))
          | (refine onPick_split (fun h => ?_) (fun h => ?_) <;> (try simp only [h])))
    · obtain ⟨hlen, hx⟩ := szL_ok (Int.not_lt.1 h)
      have hS := Fn_unown (specNew_fn xs q d a hlen hx ha)
      have hI := newAppeal_fn xs q d a hlen hx ha
      by_cases hc : newOK xs q d a = true
      · rw [newR, if_pos hc] at hS hI
        have hu : ([D.sl true 6 (dl App.d' (xs ++ [newA xs q d a])), .int .i64 (newI xs), .bool true]).map D.unown = [.sl false 6 (appsD (xs ++ [newA xs q d a])), .int .i64 (newI xs), .bool true] := by simp [D.unown, apps_unown]
        rw [hu] at hS
        have hgood := hc
        rw [newOK, Bool.and_eq_true] at hgood
        have hl := (goodA_ok hgood.2).1
        refine lawNew_of xs (xs ++ [newA xs q d a]) a q d (newI xs) true hm hw h ha (by omega) (fun y hy => ?_) hS hI
        rcases List.mem_append.1 hy with hy | hy
        · exact hx y hy
        · rw [List.mem_singleton.1 hy]; exact ⟨ha, by simp [newA]⟩
      · rw [newR, if_neg hc] at hS hI
        exact lawNew_of xs [] a q d 0 false hm hw h ha (by simp) (by simp) hS hI
  · have e0 : decide (1048576 < (a.length : Int)) = true := decide_eq_true (by omega)
    refine Fn_of' (fn := f9) (by exact func9) c9 r9 (n := 148) (by rfl) (rv := [.tmp 8]) (by rfl) (by simp) ?_
    unfold m9
    repeat' (first
        | (simp only [dl_len, e0, ↓wA, ↓wC, wB, frzBE, frzBS, Nat.reduceEqDiff, Nat.reduceAdd, Nat.reduceSub, reduceIte, reduceCtorEq, Nat.reduceBEq, Nat.reduceLT, decide_true])
        | (refine execG_split (fun h => ?_) (fun h => ?_) <;> simp only [h])
        | (refine execC_split (fun h => ?_) (fun h => ?_) <;> (try simp only [h]))
        | (refine onPick_split (fun h => ?_) (fun h => ?_) <;> (try simp only [h])))
theorem lawNew (x0 x1 x2 x3 : D) (h0 : Typed (.sl 6 appSh) x0) (h1 : Typed (.int .i64) x1) (h2 : Typed (.int .i64) x2) (h3 : Typed (.sl 1 (.int .i64)) x3) : Fn prog 9 [x0, x1, x2, x3] (fun rs => rs = [.bool true]) := by
  obtain ⟨xs, rfl, hm, hw⟩ := apps_of x0 h0
  obtain ⟨q, rfl, _⟩ := h1
  obtain ⟨d, rfl, _⟩ := h2
  obtain ⟨a, rfl, _, _⟩ := ints_of x3 h3
  exact lawNew_fn xs q d a hm hw
end Go.Pe.Try
