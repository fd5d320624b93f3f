/- The law of AreYearRows, walked. -/
import Derived.Test.YtepedloehigedaaDoorYr6
set_option maxRecDepth 100000
set_option maxHeartbeats 4000000
set_option linter.all false
namespace Go.Pe.Tryd
open Go.Proofs.Tryd
theorem ints_unown (xs : List Int) : (dl iD xs).unown = dl iD xs := dl_unown iD_unown xs
theorem ints_noOwn (xs : List Int) : (dl iD xs).noOwn = true := dl_noOwn iD_noOwn xs
theorem ints_allOwn (xs : List Int) : (dl iD xs).allOwn = true := dl_allOwn iD_allOwn xs
theorem rows_unown (xs : List Row) : (rowsD xs).unown = rowsD xs := dl_unown Row.unown xs
theorem rows_noOwn (xs : List Row) : (rowsD xs).noOwn = true := dl_noOwn Row.noOwn xs
theorem rows_allOwn (xs : List Row) : (rowsD xs).allOwn = true := dl_allOwn Row.allOwn xs
theorem areYearRows_fn (stock : Int) (xs : List Row) (hlen : xs.length ≤ 1048576) : Fn prog 22 [.int .i64 stock, .sl false 5 (rowsD xs)] (fun rs => rs = [.bool (good stock xs)]) := by
  refine Fn_of' (fn := f22) (by exact func22) c22 r22 (n := 14) (by rfl) (rv := [.tmp 4]) (by rfl) (by simp) ?_
  unfold m22
  try simp only [↓wA, ↓wC, wB, Nat.reduceEqDiff, Nat.reduceAdd, Nat.reduceSub, reduceIte, reduceCtorEq, Nat.reduceBEq, Nat.reduceLT, decide_true]
  refine call_det (restsAfter_fn stock xs hlen) rfl rfl ?_
  cases hg : good stock xs with
  | true => simp only [restsR, hg, ints_noOwn, ↓wA, ↓wC, wB, Nat.reduceEqDiff, Nat.reduceAdd, Nat.reduceSub, reduceIte, reduceCtorEq, Nat.reduceBEq, Nat.reduceLT, decide_true]
  | false => simp only [restsR, hg, ints_noOwn, ↓wA, ↓wC, wB, Nat.reduceEqDiff, Nat.reduceAdd, Nat.reduceSub, reduceIte, reduceCtorEq, Nat.reduceBEq, Nat.reduceLT, decide_true]
theorem rows_of (x : D) (h : Typed (.sl 5 rowSh) x) : ∃ xs : List Row, x = .sl false 5 (rowsD xs) ∧ xs.length ≤ maxLen := by
  obtain ⟨ds, rfl, h1, h2⟩ := h
  obtain ⟨ys, h3, h4, _⟩ := typed_list (f := Row.d) (P := fun _ => True) (fun x hx => by obtain ⟨r, hr, _⟩ := row_of x hx; exact ⟨r, hr, trivial⟩) ds h2
  exact ⟨ys, by rw [h3], by omega⟩
theorem stockRows {P : D → D → Prop} (h : ∀ (stock : Int) (xs : List Row), InR .i64 stock → xs.length ≤ maxLen → P (.int .i64 stock) (.sl false 5 (rowsD xs))) (x0 x1 : D) (h0 : Typed (.int .i64) x0) (h1 : Typed (.sl 5 rowSh) x1) : P x0 x1 := by
  obtain ⟨n, rfl, hn⟩ := h0
  obtain ⟨xs, rfl, hx⟩ := rows_of x1 h1
  exact h n xs (inR_of hn) hx
end Go.Pe.Tryd
