/- The law of HearParty, joined. -/
import Derived.Test.YtpephpnbhlfdaaaHp2
set_option maxRecDepth 100000
set_option maxHeartbeats 4000000
set_option linter.all false
namespace Go.Pe.Try
open Go.Proofs.Try
theorem hearR_bd (xs : List App) (id p : Int) (hlen : xs.length ≤ 1048576) (hx : ∀ x ∈ xs, x.ok0) (ys : List App) (h : hearR xs id p = some ys) : ys.length ≤ 1048576 ∧ ∀ y ∈ ys, y.ok0 := by
  unfold hearR at h
  split at h
  · rename_i x hr
    split at h
    · rename_i hok
      injection h with h
      subst h
      have hm := List.mem_of_getElem? hr
      rw [Bool.and_eq_true, hearOK, Bool.and_eq_true] at hok
      obtain ⟨_, hh6, _⟩ := wait_parts hok.2.1 hm hok.2.2
      refine ⟨by simp; omega, fun y hy => ?_⟩
      rcases List.mem_or_eq_of_mem_set hy with hy | rfl
      · exact hx y hy
      · exact ⟨(hx x hm).1, by show (putI p x.h).length ≤ 1048576; rw [putI_len]; omega⟩
    · cases h
  · cases h
theorem lawHear_of (xs ys : List App) (id p : Int) (c : Bool) (hm : xs.length ≤ maxLen) (hw : ∀ r ∈ xs, r.wf) (h : ¬ szL xs 1048576 < 0) (hyl : ys.length ≤ 1048576) (hyx : ∀ y ∈ ys, y.ok0) (hS : Fn prog 6 [.sl false 6 (appsD xs), .int .i64 id, .int .i64 p] (fun rs => rs = [.sl false 6 (appsD ys), .bool c])) (hI : Fn prog 8 [.sl false 6 (appsD xs), .int .i64 id, .int .i64 p] (fun rs => rs = [.sl true 6 (dl App.o ys), .bool c])) :
    Fn prog 3 [.sl false 6 (appsD xs), .int .i64 id, .int .i64 p] (fun rs => rs = [.bool true]) := by
  have hz := szAll_fn xs hm hw
  have e : decide (szL xs 1048576 < 0) = false := decide_eq_false h
  obtain ⟨hlen, hx⟩ := szL_ok (Int.not_lt.1 h)
  have hE := eqAppealS_refl xs hlen hx
  have hEy := eqAppealS_refl ys hyl hyx
  have hT := toAppealS_own xs hlen hx
  have hMx := markAppealS_fn xs 1 (by omega) (by omega) hlen hx
  have hMy := markAppealS_fn ys 1 (by omega) (by omega) hyl hyx
  have hH := heldAppealS_fn ys 1 (by omega) (by omega) hyl hyx
  have bx := sumL_bd xs hx
  have by_ := sumL_bd ys hyx
  have n1 : decide (1 + sumL xs < 0) = false := decide_eq_false (by omega)
  have n2 : decide (1 + sumL ys < 0) = false := decide_eq_false (by omega)
  refine Fn_of' (fn := f3) (by exact func3) c3 r3 (n := 106) (by rfl) (rv := [.tmp 6]) (by rfl) (by simp) ?_
  unfold m3
  repeat' (first
      | (simp only [e, ↓wA, ↓wC, wB, frzBE, frzBS, Nat.reduceEqDiff, Nat.reduceAdd, Nat.reduceSub, reduceIte, reduceCtorEq, Nat.reduceBEq, Nat.reduceLT, decide_true])
      | (refine call_det (hz) rfl rfl ?_)
      | (refine callP_det (hz) rfl rfl ?_)
      | (refine call_det (hT) rfl rfl ?_)
      | (refine callP_det (hT) rfl rfl ?_)
      | (refine execG_split (fun h => ?_) (fun h => ?_) <;> simp only [h])
      | (refine execC_split (fun h => ?_) (fun h => ?_) <;> (try simp only [h]))
      | (refine onPick_split (fun h => ?_) (fun h => ?_) <;> (try simp only [h])))
  refine call_frz 0 ?_
  simp only [frz1, frzE, frzS, D.unown, dlo_unown, ↓wA, ↓wC, wB, frzBE, frzBS, Nat.reduceEqDiff, Nat.reduceAdd, Nat.reduceSub, reduceIte, reduceCtorEq, Nat.reduceBEq, Nat.reduceLT, decide_true]
  refine call_det hS rfl rfl ?_
  have hI' : Fn prog 8 [.sl false 6 (dl App.o xs).unown, .int .i64 id, .int .i64 p] (fun rs => rs = [.sl true 6 (dl App.o ys), .bool c]) := by rw [dlo_unown]; exact hI
  have hE' : Fn prog 9 [.sl false 6 (dl App.o xs).unown, .sl false 6 (dl App.o xs).unown] (fun rs => rs = [.bool true]) := by rw [dlo_unown]; exact hE
  have hEy' : Fn prog 9 [.sl false 6 (dl App.o ys).unown, .sl false 6 (appsD ys)] (fun rs => rs = [.bool true]) := by rw [dlo_unown]; exact hEy
  have hH' : Fn prog 11 [.sl false 6 (dl App.o (markL 1 ys)).unown, .int .i64 1] (fun rs => rs = [.int .i64 (1 + sumL ys)]) := by rw [dlo_unown]; exact hH
  have hoA : (([D.sl true 6 (dl App.o ys), .bool c]).all D.allOwn) = true := by simp [D.allOwn, dlo_own]
  repeat' (first
      | (simp only [e, n1, n2, apps_noOwn, ↓wA, ↓wC, wB, frzBE, frzBS, Nat.reduceEqDiff, Nat.reduceAdd, Nat.reduceSub, reduceIte, reduceCtorEq, Nat.reduceBEq, Nat.reduceLT, decide_true])
      | (refine call_det (hT) rfl rfl ?_)
      | (refine callP_det (hT) rfl rfl ?_)
      | (refine call_det hI' rfl (by rw [hoA, Bool.or_true]) ?_)
      | (refine call_det hE' rfl rfl ?_)
      | (refine call_det hEy' rfl rfl ?_)
      | (refine callM_det hMx rfl rfl rfl ?_)
      | (refine callM_det hMy rfl rfl rfl ?_)
      | (refine call_det hH' rfl rfl ?_)
      | (refine execG_split (fun h => ?_) (fun h => ?_) <;> simp only [h])
      | (refine execC_split (fun h => ?_) (fun h => ?_) <;> (try simp only [h]))
      | (refine onPick_split (fun h => ?_) (fun h => ?_) <;> (try simp only [h])))
  all_goals simp_all
theorem lawHear_fn (xs : List App) (id p : Int) (hm : xs.length ≤ maxLen) (hw : ∀ r ∈ xs, r.wf) : Fn prog 3 [.sl false 6 (appsD xs), .int .i64 id, .int .i64 p] (fun rs => rs = [.bool true]) := by
  by_cases h : szL xs 1048576 < 0
  · have hz := szAll_fn xs hm hw
    have e : decide (szL xs 1048576 < 0) = true := decide_eq_true h
    refine Fn_of' (fn := f3) (by exact func3) c3 r3 (n := 106) (by rfl) (rv := [.tmp 6]) (by rfl) (by simp) ?_
    unfold m3
    repeat' (first
        | (simp only [e, ↓wA, ↓wC, wB, frzBE, frzBS, Nat.reduceEqDiff, Nat.reduceAdd, Nat.reduceSub, reduceIte, reduceCtorEq, Nat.reduceBEq, Nat.reduceLT, decide_true])
        | (refine call_det (hz) rfl rfl ?_)
        | (refine callP_det (hz) rfl rfl ?_)
        | (refine execG_split (fun h => ?_) (fun h => ?_) <;> simp only [h])
        | (refine execC_split (fun h => ?_) (fun h => ?_) <;> (try simp only [h]))
        | (refine onPick_split (fun h => ?_) (fun h => ?_) <;> (try simp only [h])))
  · obtain ⟨hlen, hx⟩ := szL_ok (Int.not_lt.1 h)
    have hS := Fn_unown (specHear_fn xs id p hlen hx)
    have hI := hearParty_fn xs id p hlen hx
    have hy := hearR_bd xs id p hlen hx
    cases hR : hearR xs id p with
    | none =>
      rw [hR] at hS hI
      exact lawHear_of xs [] id p false hm hw h (by simp) (by simp) hS hI
    | some ys =>
      rw [hR] at hS hI
      have hu : (listR App.d' (some ys)).map D.unown = [.sl false 6 (appsD ys), .bool true] := by simp [listR, D.unown, apps_unown]
      rw [hu] at hS
      exact lawHear_of xs ys id p true hm hw h (hy ys hR).1 (hy ys hR).2 hS hI
theorem lawHear (x0 x1 x2 : D) (h0 : Typed (.sl 6 appSh) x0) (h1 : Typed (.int .i64) x1) (h2 : Typed (.int .i64) x2) : Fn prog 3 [x0, x1, x2] (fun rs => rs = [.bool true]) := by
  obtain ⟨xs, rfl, hm, hw⟩ := apps_of x0 h0
  obtain ⟨id, rfl, _⟩ := h1
  obtain ⟨p, rfl, _⟩ := h2
  exact lawHear_fn xs id p hm hw
end Go.Pe.Try
