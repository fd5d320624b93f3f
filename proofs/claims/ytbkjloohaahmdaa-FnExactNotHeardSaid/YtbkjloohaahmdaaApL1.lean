/- The law of AreAppeals, joined. -/
import Derived.Test.YtbkjloohaahmdaaAp10
set_option maxRecDepth 100000
set_option maxHeartbeats 4000000
set_option linter.all false
namespace Go.Pe.Try
open Go.Proofs.Try
def appSh : Sh := .st (.cons (.int .i64) (.cons (.int .i64) (.cons (.int .i64) (.cons (.sl 1 (.int .i64)) (.cons (.sl 1 (.int .i64)) (.cons (.int .i64) .nil))))))
theorem inR_of {n : Int} (h : (Lit.int .i64 n).wf = true) : InR .i64 n := by
  simp only [Lit.wf, Bool.and_eq_true, decide_eq_true_eq] at h
  exact h
theorem ints_of (x : D) (h : Typed (.sl 1 (.int .i64)) x) : ∃ v : List Int, x = .sl false 1 (dl iD v) ∧ v.length ≤ maxLen ∧ ∀ n ∈ v, InR .i64 n := by
  obtain ⟨ds, rfl, h1, h2⟩ := h
  obtain ⟨ys, h3, h4, h5⟩ := typed_list (f := iD) (P := fun n => InR .i64 n) (fun x hx => by obtain ⟨n, rfl, hn⟩ := hx; exact ⟨n, rfl, inR_of hn⟩) ds h2
  exact ⟨ys, by rw [h3], by omega, h5⟩
structure App.wf (x : App) : Prop where
  i : InR .i64 x.i
  q : InR .i64 x.q
  d : InR .i64 x.d
  s : InR .i64 x.s
  al : x.a.length ≤ maxLen
  hl : x.h.length ≤ maxLen
  a : ∀ n ∈ x.a, InR .i64 n
  h : ∀ n ∈ x.h, InR .i64 n
theorem app_of (x : D) (h : Typed appSh x) : ∃ r : App, x = r.d' ∧ r.wf := by
  obtain ⟨_, rfl, _, _, rfl, ⟨i, rfl, hi⟩, _, _, rfl, ⟨q, rfl, hq⟩, _, _, rfl, ⟨d, rfl, hd⟩, x1, _, rfl, ha, x2, _, rfl, hh, _, _, rfl, ⟨s, rfl, hs⟩, rfl⟩ := h
  obtain ⟨a, rfl, ha1, ha2⟩ := ints_of x1 ha
  obtain ⟨g, rfl, hh1, hh2⟩ := ints_of x2 hh
  exact ⟨⟨i, q, d, a, g, s⟩, rfl, inR_of hi, inR_of hq, inR_of hd, inR_of hs, ha1, hh1, ha2, hh2⟩
theorem apps_of (x : D) (h : Typed (.sl 6 appSh) x) : ∃ xs : List App, x = .sl false 6 (appsD xs) ∧ xs.length ≤ maxLen ∧ ∀ r ∈ xs, r.wf := by
  obtain ⟨ds, rfl, h1, h2⟩ := h
  obtain ⟨ys, h3, h4, h5⟩ := typed_list (f := App.d') (P := App.wf) app_of ds h2
  exact ⟨ys, by rw [h3], by omega, h5⟩
theorem szAll_fn (xs : List App) (hm : xs.length ≤ maxLen) (hw : ∀ r ∈ xs, r.wf) : Fn prog 7 [.sl false 6 (appsD xs), .int .i64 1048576] (fun rs => rs = [.int .i64 (szL xs 1048576)]) :=
  szAppealS_fn xs 1048576 (by omega) (by omega) hm fun x hx => ⟨(hw x hx).al, (hw x hx).hl⟩
end Go.Pe.Try
