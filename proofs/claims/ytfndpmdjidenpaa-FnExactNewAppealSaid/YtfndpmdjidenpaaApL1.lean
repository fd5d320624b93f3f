/- The law of AreAppeals, joined. -/
import Derived.Test.YtfndpmdjidenpaaAp10
set_option maxRecDepth 100000
set_option maxHeartbeats 4000000
set_option linter.all false
namespace Go.Pe.Try
open Go.Proofs.Try
def appSh : Sh := .st (.cons (.int .i64) (.cons (.int .i64) (.cons (.int .i64) (.cons (.sl 1 (.int .i64)) (.cons (.sl 1 (.int .i64)) (.cons (.int .i64) .nil))))))
theorem inR_of {n : Int} (h : (Lit.int .i64 n).wf = true) : InR .i64 n := by
  simp only [Lit.wf, Bool.and_eq_true, decide_eq_true_eq] at h
  exact h
theorem ints_of (x : D) (h : Typed (.sl 1 (.int .i64)) x) : ∃ v : List Int, x = .sl false 1 (dl iD v) ∧ v.length ≤ maxLen ∧ ∀ n ∈ v, InR .i64 n := by
  obtain ⟨ds, rfl, h1, h2⟩ := h
  obtain ⟨ys, h3, h4, h5⟩ := typed_list (f := iD) (P := fun n => InR .i64 n) (fun x hx => by obtain ⟨n, rfl, hn⟩ := hx; exact ⟨n, rfl, inR_of hn⟩) ds h2
  exact ⟨ys, by rw [h3], by omega, h5⟩
structure App.wf (x : App) : Prop where
  i : InR .i64 x.i
  q : InR .i64 x.q
  d : InR .i64 x.d
  s : InR .i64 x.s
  al : x.a.length ≤ maxLen
  hl : x.h.length ≤ maxLen
  a : ∀ n ∈ x.a, InR .i64 n
  h : ∀ n ∈ x.h, InR .i64 n
theorem app_of (x : D) (h : Typed appSh x) : ∃ r : App, x = r.d' ∧ r.wf := by
  obtain ⟨_, rfl, _, _, rfl, ⟨i, rfl, hi⟩, _, _, rfl, ⟨q, rfl, hq⟩, _, _, rfl, ⟨d, rfl, hd⟩, x1, _, rfl, ha, x2, _, rfl, hh, _, _, rfl, ⟨s, rfl, hs⟩, rfl⟩ := h
  obtain ⟨a, rfl, ha1, ha2⟩ := ints_of x1 ha
  obtain ⟨g, rfl, hh1, hh2⟩ := ints_of x2 hh
  exact ⟨⟨i, q, d, a, g, s⟩, rfl, inR_of hi, inR_of hq, inR_of hd, inR_of hs, ha1, hh1, ha2, hh2⟩
theorem apps_of (x : D) (h : Typed (.sl 6 appSh) x) : ∃ xs : List App, x = .sl false 6 (appsD xs) ∧ xs.length ≤ maxLen ∧ ∀ r ∈ xs, r.wf := by
  obtain ⟨ds, rfl, h1, h2⟩ := h
  obtain ⟨ys, h3, h4, h5⟩ := typed_list (f := App.d') (P := App.wf) app_of ds h2
  exact ⟨ys, by rw [h3], by omega, h5⟩
theorem szAll_fn (xs : List App) (hm : xs.length ≤ maxLen) (hw : ∀ r ∈ xs, r.wf) : Fn prog 12 [.sl false 6 (appsD xs), .int .i64 1048576] (fun rs => rs = [.int .i64 (szL xs 1048576)]) :=
  szAppealS_fn xs 1048576 (by omega) (by omega) hm fun x hx => ⟨(hw x hx).al, (hw x hx).hl⟩
theorem specAreAppeals_fn (xs : List App) (hlen : xs.length ≤ 1048576) (hx : ∀ x ∈ xs, x.ok0) : Fn prog 13 [.sl false 6 (appsD xs)] (fun rs => rs = [.bool (goodA xs)]) := by
  refine Fn_of' (fn := f13) (by exact func13) c13 r13 (n := 5) (by rfl) (rv := [.tmp 2]) (by rfl) (by simp) ?_
  unfold m13
  repeat' (first
      | (simp only [↓wA, ↓wC, wB, frzBE, frzBS, Nat.reduceEqDiff, Nat.reduceAdd, Nat.reduceSub, reduceIte, reduceCtorEq, Nat.reduceBEq, Nat.reduceLT, decide_true])
      | (refine call_det (l24Good_fn xs hlen hx) rfl rfl ?_)
      | (refine callP_det (l24Good_fn xs hlen hx) rfl rfl ?_)
      | (refine execG_split (fun h => ?_) (fun h => ?_) <;> simp only [h])
      | (refine execC_split (fun h => ?_) (fun h => ?_) <;> (try simp only [h]))
      | (refine onPick_split (fun h => ?_) (fun h => ?_) <;> (try simp only [h])))
theorem lawAre_fn (xs : List App) (hm : xs.length ≤ maxLen) (hw : ∀ r ∈ xs, r.wf) : Fn prog 3 [.sl false 6 (appsD xs)] (fun rs => rs = [.bool true]) := by
  have hz := szAll_fn xs hm hw
  by_cases h : szL xs 1048576 < 0
  · have e : decide (szL xs 1048576 < 0) = true := decide_eq_true h
    refine Fn_of' (fn := f3) (by exact func3) c3 r3 (n := 27) (by rfl) (rv := [.tmp 2]) (by rfl) (by simp) ?_
    unfold m3
    repeat' (first
        | (simp only [e, ↓wA, ↓wC, wB, frzBE, frzBS, Nat.reduceEqDiff, Nat.reduceAdd, Nat.reduceSub, reduceIte, reduceCtorEq, Nat.reduceBEq, Nat.reduceLT, decide_true])
        | (refine call_det (hz) rfl rfl ?_)
        | (refine callP_det (hz) rfl rfl ?_)
        | (refine execG_split (fun h => ?_) (fun h => ?_) <;> simp only [h])
        | (refine execC_split (fun h => ?_) (fun h => ?_) <;> (try simp only [h]))
        | (refine onPick_split (fun h => ?_) (fun h => ?_) <;> (try simp only [h])))
  · have e : decide (szL xs 1048576 < 0) = false := decide_eq_false h
    obtain ⟨hlen, hx⟩ := szL_ok (Int.not_lt.1 h)
    have hS := specAreAppeals_fn xs hlen hx
    have hI := areAppeals_fn xs hlen hx
    have hE := eqAppealS_refl xs hlen hx
    have hT := toAppealS_fn xs hlen hx
    generalize goodA xs = b at hS hI
    refine Fn_of' (fn := f3) (by exact func3) c3 r3 (n := 27) (by rfl) (rv := [.tmp 2]) (by rfl) (by simp) ?_
    unfold m3
    repeat' (first
        | (simp only [e, ↓wA, ↓wC, wB, frzBE, frzBS, Nat.reduceEqDiff, Nat.reduceAdd, Nat.reduceSub, reduceIte, reduceCtorEq, Nat.reduceBEq, Nat.reduceLT, decide_true])
        | (refine call_det (hz) rfl rfl ?_)
        | (refine callP_det (hz) rfl rfl ?_)
        | (refine call_det (hT) rfl rfl ?_)
        | (refine callP_det (hT) rfl rfl ?_)
        | (refine call_det hS (by simp [argsD, argD, valOf, D.unown, apps_unown]) rfl ?_)
        | (refine call_det hI (by simp [argsD, argD, valOf, D.unown, apps_unown]) rfl ?_)
        | (refine call_det hE (by simp [argsD, argD, valOf, D.unown, apps_unown]) rfl ?_)
        | (refine execG_split (fun h => ?_) (fun h => ?_) <;> simp only [h])
        | (refine execC_split (fun h => ?_) (fun h => ?_) <;> (try simp only [h]))
        | (refine onPick_split (fun h => ?_) (fun h => ?_) <;> (try simp only [h])))
    all_goals simp_all
theorem lawAre (x0 : D) (h0 : Typed (.sl 6 appSh) x0) : Fn prog 3 [x0] (fun rs => rs = [.bool true]) := by
  obtain ⟨xs, rfl, hm, hw⟩ := apps_of x0 h0
  exact lawAre_fn xs hm hw
end Go.Pe.Try
