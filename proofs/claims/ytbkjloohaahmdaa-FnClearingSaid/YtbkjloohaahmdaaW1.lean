/- The walks of the small functions of the yearly rows; The law of IsYearRow, walked; Copies of rows; Sizes, equality with itself, what is gone; Valid rows: both the model's and the program's; The rests after the rows: the program's; The law of AreYearRows, walked; The rests after the rows: the model's; The law of YearsToClear, walked; The largest rest; The law of LargestRest, walked; The share of the destroyed; Marks, and what holds them; The missing years; What draws: a cursor over bytes; What draws: a number below a bound; What draws: once in n times; one of some numbers; What draws: a row of a year, rows; What draws: rows of years; the draws themselves; What the laws of years compare by, walked -/
import Derived.Test.YtbkjloohaahmdaaPeD
import Derived.Test.YtbkjloohaahmdaaMc1
import Derived.Test.YtbkjloohaahmdaaMc2
set_option maxRecDepth 100000
set_option maxHeartbeats 4000000
set_option linter.all false
namespace Go.Pe.Try
open Go.Proofs.Try
def within (n a b : Int) : Bool := decide (a ≤ n) && decide (n ≤ b)
theorem within_fn (n a b : Int) : Fn prog 111 [.int .i64 n, .int .i64 a, .int .i64 b] (fun rs => rs = [.bool (within n a b)]) := by
  refine Fn_of' (fn := f111) (by exact func111) c111 r111 (n := 15) (by rfl) (rv := [.tmp 6]) (by rfl) (by simp) ?_
  unfold m111
  simp only [↓wA, ↓wC, wB, frzBE, frzBS, Nat.reduceEqDiff, Nat.reduceAdd, Nat.reduceSub, reduceIte, reduceCtorEq, Nat.reduceBEq, Nat.reduceLT, decide_true]
  refine execG_split (fun h => ?_) (fun h => ?_) <;> simp only [h, ↓wA, ↓wC, wB, frzBE, frzBS, Nat.reduceEqDiff, Nat.reduceAdd, Nat.reduceSub, reduceIte, reduceCtorEq, Nat.reduceBEq, Nat.reduceLT, decide_true]
  all_goals simp [within, h]
theorem l1In_fn (n a b : Int) : Fn prog 131 [.int .i64 n, .int .i64 a, .int .i64 b] (fun rs => rs = [.bool (within n a b)]) := by
  refine Fn_of' (fn := f131) (by exact func131) c131 r131 (n := 15) (by rfl) (rv := [.tmp 6]) (by rfl) (by simp) ?_
  unfold m131
  simp only [↓wA, ↓wC, wB, frzBE, frzBS, Nat.reduceEqDiff, Nat.reduceAdd, Nat.reduceSub, reduceIte, reduceCtorEq, Nat.reduceBEq, Nat.reduceLT, decide_true]
  refine execG_split (fun h => ?_) (fun h => ?_) <;> simp only [h, ↓wA, ↓wC, wB, frzBE, frzBS, Nat.reduceEqDiff, Nat.reduceAdd, Nat.reduceSub, reduceIte, reduceCtorEq, Nat.reduceBEq, Nat.reduceLT, decide_true]
  all_goals simp [within, h]
def isCount (n : Int) : Bool := within n 0 9999
theorem isCount_fn (n : Int) : Fn prog 123 [.int .i64 n] (fun rs => rs = [.bool (isCount n)]) := by
  refine Fn_of' (fn := f123) (by exact func123) c123 r123 (n := 5) (by rfl) (rv := [.tmp 2]) (by rfl) (by simp) ?_
  unfold m123
  simp only [↓wA, ↓wC, wB, frzBE, frzBS, Nat.reduceEqDiff, Nat.reduceAdd, Nat.reduceSub, reduceIte, reduceCtorEq, Nat.reduceBEq, Nat.reduceLT, decide_true]
  refine call_det (within_fn _ _ _) rfl rfl ?_
  simp only [isCount, ↓wA, ↓wC, wB, frzBE, frzBS, Nat.reduceEqDiff, Nat.reduceAdd, Nat.reduceSub, reduceIte, reduceCtorEq, Nat.reduceBEq, Nat.reduceLT, decide_true]
theorem l26Count_fn (n : Int) : Fn prog 126 [.int .i64 n] (fun rs => rs = [.bool (isCount n)]) := by
  refine Fn_of' (fn := f126) (by exact func126) c126 r126 (n := 5) (by rfl) (rv := [.tmp 2]) (by rfl) (by simp) ?_
  unfold m126
  simp only [↓wA, ↓wC, wB, frzBE, frzBS, Nat.reduceEqDiff, Nat.reduceAdd, Nat.reduceSub, reduceIte, reduceCtorEq, Nat.reduceBEq, Nat.reduceLT, decide_true]
  refine call_det (l1In_fn _ _ _) rfl rfl ?_
  simp only [isCount, ↓wA, ↓wC, wB, frzBE, frzBS, Nat.reduceEqDiff, Nat.reduceAdd, Nat.reduceSub, reduceIte, reduceCtorEq, Nat.reduceBEq, Nat.reduceLT, decide_true]
structure Row where
  y : Int
  m : Int
  k : Int
  x : Int
  g : Int
def Row.d (r : Row) : D := .st (.cons (.int .i64 r.y) (.cons (.int .i64 r.m) (.cons (.int .i64 r.k) (.cons (.int .i64 r.x) (.cons (.int .i64 r.g) .nil)))))
def Row.ok (r : Row) : Bool := within r.y 1900 2200 && (isCount r.m && (isCount r.k && (isCount r.x && isCount r.g)))
theorem isYearRow_fn (r : Row) : Fn prog 124 [r.d] (fun rs => rs = [.bool r.ok]) := by
  refine Fn_of' (fn := f124) (by exact func124) c124 r124 (n := 26) (by rfl) (rv := [.tmp 2]) (by rfl) (by simp) ?_
  unfold m124
  simp only [Row.d]
  repeat' (first
      | (simp only [↓wA, ↓wC, wB, frzBE, frzBS, Nat.reduceEqDiff, Nat.reduceAdd, Nat.reduceSub, reduceIte, reduceCtorEq, Nat.reduceBEq, Nat.reduceLT, decide_true])
      | (refine call_det (within_fn _ _ _) rfl rfl ?_)
      | (refine callP_det (within_fn _ _ _) rfl rfl ?_)
      | (refine call_det (isCount_fn _) rfl rfl ?_)
      | (refine callP_det (isCount_fn _) rfl rfl ?_)
      | (refine execG_split (fun h => ?_) (fun h => ?_) <;> simp only [h])
      | (refine execC_split (fun h => ?_) (fun h => ?_) <;> (try simp only [h]))
      | (refine onPick_split (fun h => ?_) (fun h => ?_) <;> (try simp only [h])))
  all_goals simp [Row.ok, *]
theorem l26One_fn (r : Row) : Fn prog 125 [r.d] (fun rs => rs = [.bool r.ok]) := by
  refine Fn_of' (fn := f125) (by exact func125) c125 r125 (n := 26) (by rfl) (rv := [.tmp 2]) (by rfl) (by simp) ?_
  unfold m125
  simp only [Row.d]
  repeat' (first
      | (simp only [↓wA, ↓wC, wB, frzBE, frzBS, Nat.reduceEqDiff, Nat.reduceAdd, Nat.reduceSub, reduceIte, reduceCtorEq, Nat.reduceBEq, Nat.reduceLT, decide_true])
      | (refine call_det (l1In_fn _ _ _) rfl rfl ?_)
      | (refine callP_det (l1In_fn _ _ _) rfl rfl ?_)
      | (refine call_det (l26Count_fn _) rfl rfl ?_)
      | (refine callP_det (l26Count_fn _) rfl rfl ?_)
      | (refine execG_split (fun h => ?_) (fun h => ?_) <;> simp only [h])
      | (refine execC_split (fun h => ?_) (fun h => ?_) <;> (try simp only [h]))
      | (refine onPick_split (fun h => ?_) (fun h => ?_) <;> (try simp only [h])))
  all_goals simp [Row.ok, *]
end Go.Pe.Try

set_option maxRecDepth 100000
set_option maxHeartbeats 4000000
set_option linter.all false
namespace Go.Pe.Try
open Go.Proofs.Try
end Go.Pe.Try

set_option maxRecDepth 100000
set_option maxHeartbeats 4000000
set_option linter.all false
namespace Go.Pe.Try
open Go.Proofs.Try
theorem Row.unown (r : Row) : r.d.unown = r.d := rfl
theorem Row.noOwn (r : Row) : r.d.noOwn = true := rfl
abbrev rowsD (xs : List Row) : D := dl Row.d xs
theorem rd_row {o : List Ob} {K : SV → Prop} {r : Row} : stepRd o (some 5) r.d K = K (.d r.d) := by simp [Row.d, stepRd, D.size, D.noOwn]
theorem isV_row {r : Row} : r.d.isV = true := rfl
theorem size_row {r : Row} : r.d.size = 5 := rfl
end Go.Pe.Try

set_option maxRecDepth 100000
set_option maxHeartbeats 4000000
set_option linter.all false
namespace Go.Pe.Try
open Go.Proofs.Try
def Row.gone (r : Row) : Int := r.k + r.x + r.g
theorem ok_bounds {r : Row} (h : r.ok = true) : 1900 ≤ r.y ∧ r.y ≤ 2200 ∧ 0 ≤ r.m ∧ r.m ≤ 9999 ∧ 0 ≤ r.k ∧ r.k ≤ 9999 ∧ 0 ≤ r.x ∧ r.x ≤ 9999 ∧ 0 ≤ r.g ∧ r.g ≤ 9999 := by
  simp only [Row.ok, isCount, within, Bool.and_eq_true, decide_eq_true_eq] at h
  omega
theorem l26Gone_fn (r : Row) (h : r.ok = true) : Fn prog 80 [r.d] (fun rs => rs = [.int .i64 r.gone]) := by
  have hb := ok_bounds h
  refine Fn_of' (fn := f80) (by exact func80) c80 r80 (n := 11) (by rfl) (rv := [.tmp 2]) (by rfl) (by simp) ?_
  unfold m80
  simp only [Row.d]
  repeat' (first
      | (simp only [↓wA, ↓wC, wB, frzBE, frzBS, Nat.reduceEqDiff, Nat.reduceAdd, Nat.reduceSub, reduceIte, reduceCtorEq, Nat.reduceBEq, Nat.reduceLT, decide_true])
      | (refine onI_bare (by simp only [InR]; omega) ?_)
      | (refine execG_split (fun h => ?_) (fun h => ?_) <;> simp only [h])
      | (refine execC_split (fun h => ?_) (fun h => ?_) <;> (try simp only [h]))
      | (refine onPick_split (fun h => ?_) (fun h => ?_) <;> (try simp only [h])))
  rfl
theorem gone_fn (r : Row) (h : r.ok = true) : Fn prog 78 [r.d] (fun rs => rs = [.int .i64 r.gone]) := by
  have hb := ok_bounds h
  refine Fn_of' (fn := f78) (by exact func78) c78 r78 (n := 11) (by rfl) (rv := [.tmp 2]) (by rfl) (by simp) ?_
  unfold m78
  simp only [Row.d]
  repeat' (first
      | (simp only [↓wA, ↓wC, wB, frzBE, frzBS, Nat.reduceEqDiff, Nat.reduceAdd, Nat.reduceSub, reduceIte, reduceCtorEq, Nat.reduceBEq, Nat.reduceLT, decide_true])
      | (refine onI_bare (by simp only [InR]; omega) ?_)
      | (refine execG_split (fun h => ?_) (fun h => ?_) <;> simp only [h])
      | (refine execC_split (fun h => ?_) (fun h => ?_) <;> (try simp only [h]))
      | (refine onPick_split (fun h => ?_) (fun h => ?_) <;> (try simp only [h])))
  rfl
theorem fa_row0 {r : Row} {K : SV → Prop} : stepFa 0 0 (.d (.ptr r.d)) K = K (.d (.ptr (.int .i64 r.y))) := by simp [Row.d, stepFa, D.pre, D.nth]
theorem fa_row1 {r : Row} {K : SV → Prop} : stepFa 1 1 (.d (.ptr r.d)) K = K (.d (.ptr (.int .i64 r.m))) := by simp [Row.d, stepFa, D.pre, D.nth, D.size]
theorem fa_row3 {r : Row} {K : SV → Prop} : stepFa 3 3 (.d (.ptr r.d)) K = K (.d (.ptr (.int .i64 r.x))) := by simp [Row.d, stepFa, D.pre, D.nth, D.size]
end Go.Pe.Try

set_option maxRecDepth 100000
set_option maxHeartbeats 4000000
set_option linter.all false
namespace Go.Pe.Try
open Go.Proofs.Try
def okFrom : Int → Option Int → List Row → Bool
  | _, _, [] => true
  | rest, prev, r :: rs => r.ok && ((match prev with
    | none => true
    | some y => decide (y < r.y)) && (decide (0 ≤ rest + r.m - r.gone) && okFrom (rest + r.m - r.gone) (some r.y) rs))
def good (stock : Int) (xs : List Row) : Bool := isCount stock && (decide (xs.length ≤ 10) && okFrom stock none xs)
def prevY (xs : List Row) (i : Nat) : Option Int := if i = 0 then none else (xs[i - 1]?).map Row.y
theorem drop_get {α : Type} {xs : List α} {i : Nat} {a : α} (h : xs[i]? = some a) : xs.drop i = a :: xs.drop (i + 1) := by
  have hi := lt_of_get h
  rw [List.drop_eq_getElem_cons hi]
  rw [List.getElem?_eq_getElem hi] at h
  injection h with h
  rw [h]
theorem count_of {n : Int} (h : isCount n = true) : 0 ≤ n ∧ n ≤ 9999 := by
  simp only [isCount, within, Bool.and_eq_true, decide_eq_true_eq] at h
  exact h
theorem l26Good_fn (stock : Int) (xs : List Row) (hs : InR .i64 stock) (hlen : xs.length ≤ 1048576) : Fn prog 76 [.int .i64 stock, .sl false 5 (rowsD xs)] (fun rs => rs = [.bool (good stock xs)]) := by
  refine Fn_of' (fn := f76) (by exact func76) c76 r76 (n := 60) (by rfl) (rv := [.tmp 4]) (by rfl) (by simp) ?_
  unfold m76
  try simp only [↓wA, ↓wC, wB, frzBE, frzBS, Nat.reduceEqDiff, Nat.reduceAdd, Nat.reduceSub, reduceIte, reduceCtorEq, Nat.reduceBEq, Nat.reduceLT, decide_true]
  refine exec_loop (fun p : Nat × Int => ⟨[(0, .d (.int .i64 stock)), (1, .d (.sl false 5 (rowsD xs))), (5, .d (.int .i64 p.2)), (6, .d (.int .i64 p.1))], []⟩)
    (fun p => p.1 ≤ xs.length ∧ InR .i64 p.2 ∧ (isCount stock = true → 0 ≤ p.2 ∧ p.2 ≤ 9999 * (p.1 + 1) ∧ okFrom stock none xs = okFrom p.2 (prevY xs p.1) (xs.drop p.1))) (fun p => xs.length - p.1) (0, stock)
    (weak_of [] rfl ⟨⟨rfl, rfl⟩, ⟨rfl, rfl⟩, ⟨rfl, rfl⟩, ⟨rfl, rfl⟩, trivial⟩) ⟨Nat.zero_le _, hs, fun h => ⟨(count_of h).1, by have := (count_of h).2; omega, by simp [prevY]⟩⟩ ?_
  rintro ⟨i, rest⟩ ⟨hi, hr1, hinv⟩
  by_cases hlt : i < xs.length
  · obtain ⟨r, hr⟩ := get_lt hlt
    have hd : decide ((i : Int) < (xs.length : Int)) = true := by simp; omega
    have h0 : (0 : Int) ≤ (i : Int) := by omega
    have hdrop := drop_get hr
    have hF : (isCount stock = true → okFrom rest (prevY xs i) (r :: xs.drop (i + 1)) = false) → good stock xs = false := by
      intro h
      cases hc : isCount stock with
      | false => simp [good, hc]
      | true =>
        have e := (hinv hc).2.2
        simp only at e
        rw [hdrop, h hc] at e
        simp [good, hc, e]
    try simp only [dl_len, hd, dl_nth, Int.toNat_natCast, hr, Option.map_some, ↓rd_row, h0, onC_true, ↓wA, ↓wC, wB, frzBE, frzBS, Nat.reduceEqDiff, Nat.reduceAdd, Nat.reduceSub, reduceIte, reduceCtorEq, Nat.reduceBEq, Nat.reduceLT, decide_true]
    refine callP_det (l26One_fn r) rfl rfl ?_
    try simp only [↓wA, ↓wC, wB, frzBE, frzBS, Nat.reduceEqDiff, Nat.reduceAdd, Nat.reduceSub, reduceIte, reduceCtorEq, Nat.reduceBEq, Nat.reduceLT, decide_true]
    cases hok : r.ok with
    | false =>
      try simp only [↓wA, ↓wC, wB, frzBE, frzBS, Nat.reduceEqDiff, Nat.reduceAdd, Nat.reduceSub, reduceIte, reduceCtorEq, Nat.reduceBEq, Nat.reduceLT, decide_true]
      rw [hF fun hc => by simp [okFrom, hok]]
    | true =>
      have hb := ok_bounds hok
      have step : (prevY xs i = none ∨ ∃ y, prevY xs i = some y ∧ y < r.y) → ∀ m1 m2 : Int, InR .i64 m2 → (InR .i64 (rest + r.m) → m1 = rest + r.m) → (InR .i64 (m1 - r.gone) → m2 = m1 - r.gone) →
          (m2 < 0 → good stock xs = false) ∧ (¬ m2 < 0 → (isCount stock = true → 0 ≤ m2 ∧ m2 ≤ 9999 * (((i + 1 : Nat) : Int) + 1) ∧ okFrom stock none xs = okFrom m2 (prevY xs (i + 1)) (xs.drop (i + 1)))) := by
        intro hp m1 m2 hm2 e1 e2
        have hg : r.gone = r.k + r.x + r.g := rfl
        have key : isCount stock = true → m2 = rest + r.m - r.gone := by
          intro hc
          have hv := hinv hc
          simp only at hv
          have h1 := e1 (by simp only [InR]; omega)
          have h2 := e2 (by simp only [InR]; omega)
          omega
        have hpm : (match prevY xs i with
            | none => true
            | some y => decide (y < r.y)) = true := by
          rcases hp with hp | ⟨y, hp, hy⟩
          · rw [hp]
          · rw [hp]; simpa using hy
        refine ⟨fun hneg => hF fun hc => ?_, fun hpos hc => ?_⟩
        · have := key hc
          simp only [okFrom, hpm]
          simp
          intro _ h3
          omega
        · have hk := key hc
          have hv := hinv hc
          simp only at hv
          refine ⟨by omega, by omega, ?_⟩
          rw [hv.2.2, hdrop, hk]
          have h3 : decide (0 ≤ rest + r.m - r.gone) = true := by simp; omega
          simp only [okFrom, hok, hpm, h3, Bool.true_and]
          simp [prevY, hr]
      by_cases hi0 : i = 0
      · subst hi0
        have hg0 : decide ((0 : Int) < ((0 : Nat) : Int)) = false := by simp
        try simp only [hg0, dl_len, hd, dl_nth, Int.toNat_natCast, hr, Option.map_some, ↓rd_row, ↓fa_row1, h0, onC_true, ↓wA, ↓wC, wB, frzBE, frzBS, Nat.reduceEqDiff, Nat.reduceAdd, Nat.reduceSub, reduceIte, reduceCtorEq, Nat.reduceBEq, Nat.reduceLT, decide_true]
        refine onI_any fun m1 hm1 e1 => ?_
        try simp only [dl_len, hd, dl_nth, Int.toNat_natCast, hr, Option.map_some, ↓rd_row, h0, onC_true, ↓wA, ↓wC, wB, frzBE, frzBS, Nat.reduceEqDiff, Nat.reduceAdd, Nat.reduceSub, reduceIte, reduceCtorEq, Nat.reduceBEq, Nat.reduceLT, decide_true]
        refine callP_det (l26Gone_fn r hok) rfl rfl ?_
        try simp only [↓wA, ↓wC, wB, frzBE, frzBS, Nat.reduceEqDiff, Nat.reduceAdd, Nat.reduceSub, reduceIte, reduceCtorEq, Nat.reduceBEq, Nat.reduceLT, decide_true]
        refine onI_any fun m2 hm2 e2 => ?_
        have hst := step (.inl (by simp [prevY])) m1 m2 hm2 e1 e2
        try simp only [↓wA, ↓wC, wB, frzBE, frzBS, Nat.reduceEqDiff, Nat.reduceAdd, Nat.reduceSub, reduceIte, reduceCtorEq, Nat.reduceBEq, Nat.reduceLT, decide_true]
        refine execC_split (fun h => ?_) (fun h => ?_) <;> try simp only [↓wA, ↓wC, wB, frzBE, frzBS, Nat.reduceEqDiff, Nat.reduceAdd, Nat.reduceSub, reduceIte, reduceCtorEq, Nat.reduceBEq, Nat.reduceLT, decide_true]
        · rw [hst.1 (by simpa using h)]
        · refine onI_bare (by simp only [InR]; omega) ?_
          exact ⟨(0 + 1, m2), weak_of [] rfl ⟨⟨rfl, rfl⟩, ⟨rfl, rfl⟩, ⟨rfl, rfl⟩, ⟨rfl, rfl⟩, trivial⟩, ⟨by omega, hm2, hst.2 (by simpa using h)⟩, by simp only; omega⟩
      · obtain ⟨q, hq⟩ := get_lt (show i - 1 < xs.length by omega)
        have hg0 : decide ((0 : Int) < (i : Int)) = true := by simp; omega
        have hq' : xs[((i : Int) - 1).toNat]? = some q := by rw [show ((i : Int) - 1).toNat = i - 1 by omega]; exact hq
        have h1 : (0 : Int) ≤ (i : Int) - 1 := by omega
        try simp only [hg0, dl_len, hd, dl_nth, Int.toNat_natCast, hr, Option.map_some, ↓rd_row, ↓fa_row0, h0, onC_true, ↓wA, ↓wC, wB, frzBE, frzBS, Nat.reduceEqDiff, Nat.reduceAdd, Nat.reduceSub, reduceIte, reduceCtorEq, Nat.reduceBEq, Nat.reduceLT, decide_true]
        refine onI_bare (by simp only [InR]; omega) ?_
        try simp only [hg0, dl_len, hd, dl_nth, Int.toNat_natCast, hr, hq', h1, Option.map_some, ↓rd_row, ↓fa_row0, h0, onC_true, ↓wA, ↓wC, wB, frzBE, frzBS, Nat.reduceEqDiff, Nat.reduceAdd, Nat.reduceSub, reduceIte, reduceCtorEq, Nat.reduceBEq, Nat.reduceLT, decide_true]
        refine execC_split (fun h => ?_) (fun h => ?_) <;> try simp only [dl_len, hd, dl_nth, Int.toNat_natCast, hr, Option.map_some, ↓rd_row, ↓fa_row1, h0, onC_true, ↓wA, ↓wC, wB, frzBE, frzBS, Nat.reduceEqDiff, Nat.reduceAdd, Nat.reduceSub, reduceIte, reduceCtorEq, Nat.reduceBEq, Nat.reduceLT, decide_true]
        · have hle : ¬ q.y < r.y := by simp at h; omega
          rw [hF fun hc => by simp [okFrom, prevY, hi0, hq, hle]]
        · refine onI_any fun m1 hm1 e1 => ?_
          try simp only [dl_len, hd, dl_nth, Int.toNat_natCast, hr, Option.map_some, ↓rd_row, h0, onC_true, ↓wA, ↓wC, wB, frzBE, frzBS, Nat.reduceEqDiff, Nat.reduceAdd, Nat.reduceSub, reduceIte, reduceCtorEq, Nat.reduceBEq, Nat.reduceLT, decide_true]
          refine callP_det (l26Gone_fn r hok) rfl rfl ?_
          try simp only [↓wA, ↓wC, wB, frzBE, frzBS, Nat.reduceEqDiff, Nat.reduceAdd, Nat.reduceSub, reduceIte, reduceCtorEq, Nat.reduceBEq, Nat.reduceLT, decide_true]
          refine onI_any fun m2 hm2 e2 => ?_
          have hst := step (.inr ⟨q.y, by simp [prevY, hi0, hq], by simp at h; omega⟩) m1 m2 hm2 e1 e2
          try simp only [↓wA, ↓wC, wB, frzBE, frzBS, Nat.reduceEqDiff, Nat.reduceAdd, Nat.reduceSub, reduceIte, reduceCtorEq, Nat.reduceBEq, Nat.reduceLT, decide_true]
          refine execC_split (fun h => ?_) (fun h => ?_) <;> try simp only [↓wA, ↓wC, wB, frzBE, frzBS, Nat.reduceEqDiff, Nat.reduceAdd, Nat.reduceSub, reduceIte, reduceCtorEq, Nat.reduceBEq, Nat.reduceLT, decide_true]
          · rw [hst.1 (by simpa using h)]
          · refine onI_bare (by simp only [InR]; omega) ?_
            exact ⟨(i + 1, m2), weak_of [] rfl ⟨⟨rfl, rfl⟩, ⟨rfl, rfl⟩, ⟨rfl, rfl⟩, ⟨rfl, rfl⟩, trivial⟩, ⟨by omega, hm2, hst.2 (by simpa using h)⟩, by simp only; omega⟩
  · have hd : decide ((i : Int) < (xs.length : Int)) = false := by simp; omega
    have e : i = xs.length := by omega
    have hG : good stock xs = (isCount stock && decide ((xs.length : Int) ≤ 10)) := by
      cases hc : isCount stock with
      | false => simp [good, hc]
      | true =>
        have := (hinv hc).2.2
        simp only [e, List.drop_length, okFrom] at this
        simp only [good, hc, this, Bool.and_true, Bool.true_and]
        congr 1; apply propext; omega
    rw [hG]
    try simp only [dl_len, hd, ↓wA, ↓wC, wB, frzBE, frzBS, Nat.reduceEqDiff, Nat.reduceAdd, Nat.reduceSub, reduceIte, reduceCtorEq, Nat.reduceBEq, Nat.reduceLT, decide_true]
    refine call_det (l26Count_fn _) rfl rfl ?_
    repeat' (first
        | (simp only [dl_len, ↓wA, ↓wC, wB, frzBE, frzBS, Nat.reduceEqDiff, Nat.reduceAdd, Nat.reduceSub, reduceIte, reduceCtorEq, Nat.reduceBEq, Nat.reduceLT, decide_true])
        | (refine execG_split (fun h => ?_) (fun h => ?_) <;> simp only [h])
        | (refine execC_split (fun h => ?_) (fun h => ?_) <;> (try simp only [h]))
        | (refine onPick_split (fun h => ?_) (fun h => ?_) <;> (try simp only [h])))
    all_goals simp_all
end Go.Pe.Try

set_option maxRecDepth 100000
set_option maxHeartbeats 4000000
set_option linter.all false
namespace Go.Pe.Try
open Go.Proofs.Try
def rests : Int → List Row → List Int
  | _, [] => []
  | s, r :: rs => (s + r.m - r.gone) :: rests (s + r.m - r.gone) rs
def restsR (stock : Int) (xs : List Row) : List D := if good stock xs then [.sl true 1 (dl iD (rests stock xs)), .bool true] else [.sl true 1 (dl iD []), .bool false]
theorem restsAfter_fn (stock : Int) (xs : List Row) (hlen : xs.length ≤ 1048576) : Fn prog 73 [.int .i64 stock, .sl false 5 (rowsD xs)] (fun rs => rs = restsR stock xs) := by
  refine Fn_of' (fn := f73) (by exact func73) c73 r73 (n := 57) (by rfl) (rv := [.tmp 4, .tmp 5]) (by rfl) (by simp) ?_
  unfold m73
  try simp only [↓wA, ↓wC, wB, frzBE, frzBS, Nat.reduceEqDiff, Nat.reduceAdd, Nat.reduceSub, reduceIte, reduceCtorEq, Nat.reduceBEq, Nat.reduceLT, decide_true]
  refine call_det (isCount_fn _) rfl rfl ?_
  try simp only [↓wA, ↓wC, wB, frzBE, frzBS, Nat.reduceEqDiff, Nat.reduceAdd, Nat.reduceSub, reduceIte, reduceCtorEq, Nat.reduceBEq, Nat.reduceLT, decide_true]
  cases hc : isCount stock with
  | false =>
    try simp only [↓wA, ↓wC, wB, frzBE, frzBS, Nat.reduceEqDiff, Nat.reduceAdd, Nat.reduceSub, reduceIte, reduceCtorEq, Nat.reduceBEq, Nat.reduceLT, decide_true]
    refine take_nil 1 ?_
    try simp only [↓wA, ↓wC, wB, frzBE, frzBS, Nat.reduceEqDiff, Nat.reduceAdd, Nat.reduceSub, reduceIte, reduceCtorEq, Nat.reduceBEq, Nat.reduceLT, decide_true]
    simp [restsR, good, hc, dl, ofL]
  | true =>
    by_cases hn : xs.length ≤ 10
    · have hd10 : decide ((10 : Int) < (xs.length : Int)) = false := by simp; omega
      try simp only [dl_len, hd10, ↓wA, ↓wC, wB, frzBE, frzBS, Nat.reduceEqDiff, Nat.reduceAdd, Nat.reduceSub, reduceIte, reduceCtorEq, Nat.reduceBEq, Nat.reduceLT, decide_true]
      have hbs := count_of hc
      have hgood : good stock xs = okFrom stock none xs := by simp [good, hc, hn]
      refine exec_loopN (ts := [(6, 1)]) (fun p : Nat × Int × List Int => ⟨[(0, .d (.int .i64 p.2.1)), (1, .d (.sl false 5 (rowsD xs))), (6, .own 0), (17, .d (.sl false 5 (rowsD xs))), (18, .d (.int .i64 xs.length)), (19, .d (.int .i64 p.1))], [.val (.sl true 1 (dl iD p.2.2))]⟩)
        (fun p => p.1 ≤ xs.length ∧ p.2.2.length = p.1 ∧ 0 ≤ p.2.1 ∧ p.2.1 ≤ 9999 * (p.1 + 1) ∧ okFrom stock none xs = okFrom p.2.1 (prevY xs p.1) (xs.drop p.1) ∧ rests stock xs = p.2.2 ++ rests p.2.1 (xs.drop p.1)) (fun p => xs.length - p.1) (0, stock, [])
        ⟨rfl, trivial⟩ (weak_of [] rfl ⟨⟨rfl, rfl⟩, ⟨rfl, rfl⟩, ⟨rfl, rfl⟩, ⟨rfl, rfl⟩, ⟨rfl, rfl⟩, ⟨rfl, rfl⟩, trivial⟩) ⟨Nat.zero_le _, rfl, hbs.1, by have := hbs.2; simp only; omega, by simp [prevY], by simp⟩ ?_
      rintro ⟨i, st, out⟩ ⟨hi, hout, hs0, hs1, hok, hre⟩
      simp only at hi hout hs0 hs1 hok hre
      by_cases hlt : i < xs.length
      · obtain ⟨r, hr⟩ := get_lt hlt
        have hd : decide ((i : Int) < (xs.length : Int)) = true := by simp; omega
        have h0 : (0 : Int) ≤ (i : Int) := by omega
        have hdrop := drop_get hr
        rw [hdrop] at hok hre
        try simp only [dl_len, hd, dl_nth, Int.toNat_natCast, hr, Option.map_some, ↓rd_row, h0, onC_true, isV_row, size_row, ↓wA, ↓wC, wB, frzBE, frzBS, Nat.reduceEqDiff, Nat.reduceAdd, Nat.reduceSub, reduceIte, reduceCtorEq, Nat.reduceBEq, Nat.reduceLT, decide_true]
        refine callP_det (isYearRow_fn r) rfl rfl ?_
        try simp only [↓wA, ↓wC, wB, frzBE, frzBS, Nat.reduceEqDiff, Nat.reduceAdd, Nat.reduceSub, reduceIte, reduceCtorEq, Nat.reduceBEq, Nat.reduceLT, decide_true]
        cases hrk : r.ok with
        | false =>
          have hf : good stock xs = false := by rw [hgood, hok]; simp [okFrom, hrk]
          try simp only [↓wA, ↓wC, wB, frzBE, frzBS, Nat.reduceEqDiff, Nat.reduceAdd, Nat.reduceSub, reduceIte, reduceCtorEq, Nat.reduceBEq, Nat.reduceLT, decide_true]
          refine take_nil 1 ?_
          try simp only [↓wA, ↓wC, wB, frzBE, frzBS, Nat.reduceEqDiff, Nat.reduceAdd, Nat.reduceSub, reduceIte, reduceCtorEq, Nat.reduceBEq, Nat.reduceLT, decide_true]
          simp [restsR, hf, dl, ofL]
        | true =>
          have hb := ok_bounds hrk
          have hg : r.gone = r.k + r.x + r.g := rfl
          have tail : (prevY xs i = none ∨ ∃ y, prevY xs i = some y ∧ y < r.y) → okFrom st (prevY xs i) (r :: xs.drop (i + 1)) = (decide (0 ≤ st + r.m - r.gone) && okFrom (st + r.m - r.gone) (some r.y) (xs.drop (i + 1))) := by
            intro hp
            rcases hp with hp | ⟨y, hp, hy⟩
            · simp [hp, okFrom, hrk]
            · simp [hp, okFrom, hrk, hy]
          have hpre : prevY xs (i + 1) = some r.y := by simp [prevY, hr]
          by_cases hi0 : i = 0
          · subst hi0
            have hg0 : decide ((0 : Int) < ((0 : Nat) : Int)) = false := by simp
            have hp : prevY xs 0 = none := by simp [prevY]
            have hp' := Or.inl (b := ∃ y, prevY xs 0 = some y ∧ y < r.y) hp
            try simp only [hg0, ↓wA, ↓wC, wB, frzBE, frzBS, Nat.reduceEqDiff, Nat.reduceAdd, Nat.reduceSub, reduceIte, reduceCtorEq, Nat.reduceBEq, Nat.reduceLT, decide_true]
            try simp only [dl_len, hd, dl_nth, Int.toNat_natCast, hr, Option.map_some, ↓rd_row, h0, onC_true, Row.d, ↓wA, ↓wC, wB, frzBE, frzBS, Nat.reduceEqDiff, Nat.reduceAdd, Nat.reduceSub, reduceIte, reduceCtorEq, Nat.reduceBEq, Nat.reduceLT, decide_true]
            refine callP_det (gone_fn r hrk) rfl rfl ?_
            try simp only [↓wA, ↓wC, wB, frzBE, frzBS, Nat.reduceEqDiff, Nat.reduceAdd, Nat.reduceSub, reduceIte, reduceCtorEq, Nat.reduceBEq, Nat.reduceLT, decide_true]
            refine onI_bare (by simp only [InR]; omega) ?_
            try simp only [↓wA, ↓wC, wB, frzBE, frzBS, Nat.reduceEqDiff, Nat.reduceAdd, Nat.reduceSub, reduceIte, reduceCtorEq, Nat.reduceBEq, Nat.reduceLT, decide_true]
            refine onI_bare (by simp only [InR]; omega) ?_
            try simp only [↓wA, ↓wC, wB, frzBE, frzBS, Nat.reduceEqDiff, Nat.reduceAdd, Nat.reduceSub, reduceIte, reduceCtorEq, Nat.reduceBEq, Nat.reduceLT, decide_true]
            refine execC_split (fun h => ?_) (fun h => ?_)
            · have hf : good stock xs = false := by
                have h3 : ¬ 0 ≤ st + r.m - r.gone := by simp at h; omega
                rw [hgood, hok, tail hp', decide_eq_false h3]; rfl
              try simp only [↓wA, ↓wC, wB, frzBE, frzBS, Nat.reduceEqDiff, Nat.reduceAdd, Nat.reduceSub, reduceIte, reduceCtorEq, Nat.reduceBEq, Nat.reduceLT, decide_true]
              refine take_nil 1 ?_
              try simp only [↓wA, ↓wC, wB, frzBE, frzBS, Nat.reduceEqDiff, Nat.reduceAdd, Nat.reduceSub, reduceIte, reduceCtorEq, Nat.reduceBEq, Nat.reduceLT, decide_true]
              simp [restsR, hf, dl, ofL]
            · have h3 : 0 ≤ st + r.m - r.gone := by simp at h; omega
              have e1 : st + (r.m - r.gone) = st + r.m - r.gone := by omega
              try simp only [dl_len, e1, app_int, ↓wA, ↓wC, wB, frzBE, frzBS, Nat.reduceEqDiff, Nat.reduceAdd, Nat.reduceSub, reduceIte, reduceCtorEq, Nat.reduceBEq, Nat.reduceLT, decide_true]
              refine onC_i (by first | omega | simp) ?_
              try refine onC_i (by omega) ?_
              try simp only [e1, app_int, ↓wA, ↓wC, wB, frzBE, frzBS, Nat.reduceEqDiff, Nat.reduceAdd, Nat.reduceSub, reduceIte, reduceCtorEq, Nat.reduceBEq, Nat.reduceLT, decide_true]
              refine onI_bare (by simp only [InR]; omega) ?_
              refine ⟨(0 + 1, st + r.m - r.gone, out ++ [st + r.m - r.gone]), weak_of _ rfl ⟨⟨rfl, rfl⟩, ⟨rfl, rfl⟩, ⟨rfl, rfl⟩, ⟨rfl, rfl⟩, ⟨rfl, rfl⟩, ⟨rfl, rfl⟩, trivial⟩, ⟨by omega, by simp [hout], h3, by simp only; omega, ?_, ?_⟩, by simp only; omega⟩
              · rw [hok, tail hp', hpre, decide_eq_true h3]; rfl
              · rw [hre]; simp [rests]
          · obtain ⟨q, hq⟩ := get_lt (show i - 1 < xs.length by omega)
            have hg0 : decide ((0 : Int) < (i : Int)) = true := by simp; omega
            have hq' : xs[((i : Int) - 1).toNat]? = some q := by rw [show ((i : Int) - 1).toNat = i - 1 by omega]; exact hq
            have h1 : (0 : Int) ≤ (i : Int) - 1 := by omega
            have hp : prevY xs i = some q.y := by simp [prevY, hi0, hq]
            try simp only [hg0, ↓wA, ↓wC, wB, frzBE, frzBS, Nat.reduceEqDiff, Nat.reduceAdd, Nat.reduceSub, reduceIte, reduceCtorEq, Nat.reduceBEq, Nat.reduceLT, decide_true]
            refine onI_bare (by simp only [InR]; omega) ?_
            try simp only [dl_nth, hq', h1, Option.map_some, ↓fa_row0, onC_true, Row.d, ↓wA, ↓wC, wB, frzBE, frzBS, Nat.reduceEqDiff, Nat.reduceAdd, Nat.reduceSub, reduceIte, reduceCtorEq, Nat.reduceBEq, Nat.reduceLT, decide_true]
            refine execC_split (fun h => ?_) (fun h => ?_)
            · have hle : ¬ q.y < r.y := by simp at h; omega
              have hf : good stock xs = false := by rw [hgood, hok, hp]; simp [okFrom, hle]
              try simp only [↓wA, ↓wC, wB, frzBE, frzBS, Nat.reduceEqDiff, Nat.reduceAdd, Nat.reduceSub, reduceIte, reduceCtorEq, Nat.reduceBEq, Nat.reduceLT, decide_true]
              refine take_nil 1 ?_
              try simp only [↓wA, ↓wC, wB, frzBE, frzBS, Nat.reduceEqDiff, Nat.reduceAdd, Nat.reduceSub, reduceIte, reduceCtorEq, Nat.reduceBEq, Nat.reduceLT, decide_true]
              simp [restsR, hf, dl, ofL]
            have hp' : prevY xs i = none ∨ ∃ y, prevY xs i = some y ∧ y < r.y := .inr ⟨q.y, hp, by simp at h; omega⟩
            try simp only [dl_len, hd, dl_nth, Int.toNat_natCast, hr, Option.map_some, ↓rd_row, h0, onC_true, Row.d, ↓wA, ↓wC, wB, frzBE, frzBS, Nat.reduceEqDiff, Nat.reduceAdd, Nat.reduceSub, reduceIte, reduceCtorEq, Nat.reduceBEq, Nat.reduceLT, decide_true]
            refine callP_det (gone_fn r hrk) rfl rfl ?_
            try simp only [↓wA, ↓wC, wB, frzBE, frzBS, Nat.reduceEqDiff, Nat.reduceAdd, Nat.reduceSub, reduceIte, reduceCtorEq, Nat.reduceBEq, Nat.reduceLT, decide_true]
            refine onI_bare (by simp only [InR]; omega) ?_
            try simp only [↓wA, ↓wC, wB, frzBE, frzBS, Nat.reduceEqDiff, Nat.reduceAdd, Nat.reduceSub, reduceIte, reduceCtorEq, Nat.reduceBEq, Nat.reduceLT, decide_true]
            refine onI_bare (by simp only [InR]; omega) ?_
            try simp only [↓wA, ↓wC, wB, frzBE, frzBS, Nat.reduceEqDiff, Nat.reduceAdd, Nat.reduceSub, reduceIte, reduceCtorEq, Nat.reduceBEq, Nat.reduceLT, decide_true]
            refine execC_split (fun h => ?_) (fun h => ?_)
            · have hf : good stock xs = false := by
                have h3 : ¬ 0 ≤ st + r.m - r.gone := by simp at h; omega
                rw [hgood, hok, tail hp', decide_eq_false h3]; rfl
              try simp only [↓wA, ↓wC, wB, frzBE, frzBS, Nat.reduceEqDiff, Nat.reduceAdd, Nat.reduceSub, reduceIte, reduceCtorEq, Nat.reduceBEq, Nat.reduceLT, decide_true]
              refine take_nil 1 ?_
              try simp only [↓wA, ↓wC, wB, frzBE, frzBS, Nat.reduceEqDiff, Nat.reduceAdd, Nat.reduceSub, reduceIte, reduceCtorEq, Nat.reduceBEq, Nat.reduceLT, decide_true]
              simp [restsR, hf, dl, ofL]
            · have h3 : 0 ≤ st + r.m - r.gone := by simp at h; omega
              have e1 : st + (r.m - r.gone) = st + r.m - r.gone := by omega
              try simp only [dl_len, e1, app_int, ↓wA, ↓wC, wB, frzBE, frzBS, Nat.reduceEqDiff, Nat.reduceAdd, Nat.reduceSub, reduceIte, reduceCtorEq, Nat.reduceBEq, Nat.reduceLT, decide_true]
              refine onC_i (by first | omega | simp) ?_
              try refine onC_i (by omega) ?_
              try simp only [e1, app_int, ↓wA, ↓wC, wB, frzBE, frzBS, Nat.reduceEqDiff, Nat.reduceAdd, Nat.reduceSub, reduceIte, reduceCtorEq, Nat.reduceBEq, Nat.reduceLT, decide_true]
              refine onI_bare (by simp only [InR]; omega) ?_
              refine ⟨(i + 1, st + r.m - r.gone, out ++ [st + r.m - r.gone]), weak_of _ rfl ⟨⟨rfl, rfl⟩, ⟨rfl, rfl⟩, ⟨rfl, rfl⟩, ⟨rfl, rfl⟩, ⟨rfl, rfl⟩, ⟨rfl, rfl⟩, trivial⟩, ⟨by omega, by simp [hout], h3, by simp only; omega, ?_, ?_⟩, by simp only; omega⟩
              · rw [hok, tail hp', hpre, decide_eq_true h3]; rfl
              · rw [hre]; simp [rests]
      · have hd : decide ((i : Int) < (xs.length : Int)) = false := by simp; omega
        have e : i = xs.length := by omega
        have hg : good stock xs = true := by rw [hgood, hok, e, List.drop_length]; rfl
        have ho : rests stock xs = out := by rw [hre, e, List.drop_length]; simp [rests]
        try simp only [hd, ↓wA, ↓wC, wB, frzBE, frzBS, Nat.reduceEqDiff, Nat.reduceAdd, Nat.reduceSub, reduceIte, reduceCtorEq, Nat.reduceBEq, Nat.reduceLT, decide_true]
        simp [restsR, hg, ho]
    · have hd10 : decide ((10 : Int) < (xs.length : Int)) = true := by simp; omega
      try simp only [dl_len, hd10, ↓wA, ↓wC, wB, frzBE, frzBS, Nat.reduceEqDiff, Nat.reduceAdd, Nat.reduceSub, reduceIte, reduceCtorEq, Nat.reduceBEq, Nat.reduceLT, decide_true]
      refine take_nil 1 ?_
      try simp only [↓wA, ↓wC, wB, frzBE, frzBS, Nat.reduceEqDiff, Nat.reduceAdd, Nat.reduceSub, reduceIte, reduceCtorEq, Nat.reduceBEq, Nat.reduceLT, decide_true]
      simp [restsR, good, hc, hn, dl, ofL]
end Go.Pe.Try

set_option maxRecDepth 100000
set_option maxHeartbeats 4000000
set_option linter.all false
namespace Go.Pe.Try
open Go.Proofs.Try
theorem ints_unown (xs : List Int) : (dl iD xs).unown = dl iD xs := dl_unown iD_unown xs
theorem ints_noOwn (xs : List Int) : (dl iD xs).noOwn = true := dl_noOwn iD_noOwn xs
theorem rows_unown (xs : List Row) : (rowsD xs).unown = rowsD xs := dl_unown Row.unown xs
theorem rows_noOwn (xs : List Row) : (rowsD xs).noOwn = true := dl_noOwn Row.noOwn xs
theorem areYearRows_fn (stock : Int) (xs : List Row) (hlen : xs.length ≤ 1048576) : Fn prog 81 [.int .i64 stock, .sl false 5 (rowsD xs)] (fun rs => rs = [.bool (good stock xs)]) := by
  refine Fn_of' (fn := f81) (by exact func81) c81 r81 (n := 14) (by rfl) (rv := [.tmp 4]) (by rfl) (by simp) ?_
  unfold m81
  try simp only [↓wA, ↓wC, wB, frzBE, frzBS, Nat.reduceEqDiff, Nat.reduceAdd, Nat.reduceSub, reduceIte, reduceCtorEq, Nat.reduceBEq, Nat.reduceLT, decide_true]
  refine call_det (restsAfter_fn stock xs hlen) rfl rfl ?_
  cases hg : good stock xs with
  | true => simp only [restsR, hg, ints_noOwn, ↓wA, ↓wC, wB, frzBE, frzBS, Nat.reduceEqDiff, Nat.reduceAdd, Nat.reduceSub, reduceIte, reduceCtorEq, Nat.reduceBEq, Nat.reduceLT, decide_true]
  | false => simp only [restsR, hg, ints_noOwn, ↓wA, ↓wC, wB, frzBE, frzBS, Nat.reduceEqDiff, Nat.reduceAdd, Nat.reduceSub, reduceIte, reduceCtorEq, Nat.reduceBEq, Nat.reduceLT, decide_true]
end Go.Pe.Try

set_option maxRecDepth 100000
set_option maxHeartbeats 4000000
set_option linter.all false
namespace Go.Pe.Try
open Go.Proofs.Try
theorem okFrom_cons {s : Int} {p : Option Int} {r : Row} {rs : List Row} (h : okFrom s p (r :: rs) = true) : r.ok = true ∧ 0 ≤ s + r.m - r.gone ∧ okFrom (s + r.m - r.gone) (some r.y) rs = true := by
  simp only [okFrom, Bool.and_eq_true, decide_eq_true_eq] at h
  exact ⟨h.1, h.2.2.1, h.2.2.2⟩
theorem ok_all : ∀ (xs : List Row) (s : Int) (p : Option Int) (B : Int), okFrom s p xs = true → 0 ≤ s → s ≤ B → (∀ r ∈ xs, r.ok = true) ∧ ∀ v ∈ rests s xs, 0 ≤ v ∧ v ≤ B + 9999 * xs.length
  | [], s, p, B, _, _, _ => ⟨by simp, by simp [rests]⟩
  | r :: xs, s, p, B, h, h0, hB => by
    obtain ⟨h1, h2, h3⟩ := okFrom_cons h
    have hb := ok_bounds h1
    have hg : r.gone = r.k + r.x + r.g := rfl
    obtain ⟨k1, k2⟩ := ok_all xs _ _ (B + 9999) h3 h2 (by omega)
    refine ⟨fun q hq => ?_, fun v hv => ?_⟩
    · rcases List.mem_cons.1 hq with hq | hq
      · rw [hq]; exact h1
      · exact k1 q hq
    · simp only [rests] at hv
      have hl : ((r :: xs).length : Int) = xs.length + 1 := by simp
      rcases List.mem_cons.1 hv with hv | hv
      · rw [hv]; omega
      · have := k2 v hv; omega
theorem rests_len : ∀ (xs : List Row) (s : Int), (rests s xs).length = xs.length
  | [], s => rfl
  | r :: xs, s => by simp [rests, rests_len xs]
theorem good_parts {stock : Int} {xs : List Row} (h : good stock xs = true) : 0 ≤ stock ∧ stock ≤ 9999 ∧ xs.length ≤ 10 ∧ okFrom stock none xs = true := by
  simp only [good, Bool.and_eq_true, decide_eq_true_eq] at h
  have := count_of h.1
  exact ⟨this.1, this.2, h.2.1, h.2.2⟩
theorem good_ok {stock : Int} {xs : List Row} (h : good stock xs = true) {i : Nat} {r : Row} (hr : xs[i]? = some r) : r.ok = true := by
  obtain ⟨h0, h1, h2, h3⟩ := good_parts h
  exact (ok_all xs stock none 9999 h3 h0 h1).1 r (List.mem_of_getElem? hr)
theorem good_rest {stock : Int} {xs : List Row} (h : good stock xs = true) {i : Nat} {v : Int} (hr : (rests stock xs)[i]? = some v) : 0 ≤ v ∧ v ≤ 109989 := by
  obtain ⟨h0, h1, h2, h3⟩ := good_parts h
  have := (ok_all xs stock none 9999 h3 h0 h1).2 v (List.mem_of_getElem? hr)
  omega
theorem l26Rests_fn (stock : Int) (xs : List Row) (hg : good stock xs = true) : Fn prog 77 [.int .i64 stock, .sl false 5 (rowsD xs)] (fun rs => rs = [.sl true 1 (dl iD (rests stock xs))]) := by
  obtain ⟨g0, g1, g2, g3⟩ := good_parts hg
  refine Fn_of' (fn := f77) (by exact func77) c77 r77 (n := 32) (by rfl) (rv := [.tmp 4]) (by rfl) (by simp) ?_
  unfold m77
  try simp only [↓wA, ↓wC, wB, frzBE, frzBS, Nat.reduceEqDiff, Nat.reduceAdd, Nat.reduceSub, reduceIte, reduceCtorEq, Nat.reduceBEq, Nat.reduceLT, decide_true]
  refine exec_loop (fun p : Nat × Int × List Int => ⟨[(0, .d (.int .i64 p.2.1)), (1, .d (.sl false 5 (rowsD xs))), (5, .own 0), (6, .d (.int .i64 p.1))], [.val (.sl true 1 (dl iD p.2.2))]⟩)
    (fun p => p.1 ≤ xs.length ∧ p.2.2.length = p.1 ∧ 0 ≤ p.2.1 ∧ p.2.1 ≤ 9999 * (p.1 + 1) ∧ okFrom p.2.1 (prevY xs p.1) (xs.drop p.1) = true ∧ rests stock xs = p.2.2 ++ rests p.2.1 (xs.drop p.1)) (fun p => xs.length - p.1) (0, stock, [])
    (weak_of [] rfl ⟨⟨rfl, rfl⟩, ⟨rfl, rfl⟩, ⟨rfl, rfl⟩, ⟨rfl, rfl⟩, trivial⟩) ⟨Nat.zero_le _, rfl, g0, by simp only; omega, by simpa [prevY] using g3, by simp⟩ ?_
  rintro ⟨i, st, out⟩ ⟨hi, hout, hs0, hs1, hok, hre⟩
  simp only at hi hout hs0 hs1 hok hre
  by_cases hlt : i < xs.length
  · obtain ⟨r, hr⟩ := get_lt hlt
    have hd : decide ((i : Int) < (xs.length : Int)) = true := by simp; omega
    have h0 : (0 : Int) ≤ (i : Int) := by omega
    rw [drop_get hr] at hok hre
    obtain ⟨k1, k2, k3⟩ := okFrom_cons hok
    have hb := ok_bounds k1
    have hgn : r.gone = r.k + r.x + r.g := rfl
    try simp only [dl_len, hd, dl_nth, Int.toNat_natCast, hr, Option.map_some, ↓rd_row, ↓fa_row1, h0, onC_true, ↓wA, ↓wC, wB, frzBE, frzBS, Nat.reduceEqDiff, Nat.reduceAdd, Nat.reduceSub, reduceIte, reduceCtorEq, Nat.reduceBEq, Nat.reduceLT, decide_true]
    refine onI_bare (by simp only [InR]; omega) ?_
    try simp only [dl_len, hd, dl_nth, Int.toNat_natCast, hr, Option.map_some, ↓rd_row, h0, onC_true, ↓wA, ↓wC, wB, frzBE, frzBS, Nat.reduceEqDiff, Nat.reduceAdd, Nat.reduceSub, reduceIte, reduceCtorEq, Nat.reduceBEq, Nat.reduceLT, decide_true]
    refine callP_det (l26Gone_fn r k1) rfl rfl ?_
    try simp only [↓wA, ↓wC, wB, frzBE, frzBS, Nat.reduceEqDiff, Nat.reduceAdd, Nat.reduceSub, reduceIte, reduceCtorEq, Nat.reduceBEq, Nat.reduceLT, decide_true]
    refine onI_bare (by simp only [InR]; omega) ?_
    try simp only [dl_len, app_int, ↓wA, ↓wC, wB, frzBE, frzBS, Nat.reduceEqDiff, Nat.reduceAdd, Nat.reduceSub, reduceIte, reduceCtorEq, Nat.reduceBEq, Nat.reduceLT, decide_true]
    refine onC_i (by first | omega | simp) ?_
    try refine onC_i (by omega) ?_
    try simp only [app_int, ↓wA, ↓wC, wB, frzBE, frzBS, Nat.reduceEqDiff, Nat.reduceAdd, Nat.reduceSub, reduceIte, reduceCtorEq, Nat.reduceBEq, Nat.reduceLT, decide_true]
    refine onI_bare (by simp only [InR]; omega) ?_
    refine ⟨(i + 1, st + r.m - r.gone, out ++ [st + r.m - r.gone]), weak_of _ rfl ⟨⟨rfl, rfl⟩, ⟨rfl, rfl⟩, ⟨rfl, rfl⟩, ⟨rfl, rfl⟩, trivial⟩, ⟨by omega, by simp [hout], k2, by simp only; omega, ?_, ?_⟩, by simp only; omega⟩
    · simpa [prevY, hr] using k3
    · rw [hre]; simp [rests]
  · have hd : decide ((i : Int) < (xs.length : Int)) = false := by simp; omega
    have e : i = xs.length := by omega
    have ho : rests stock xs = out := by rw [hre, e, List.drop_length]; simp [rests]
    try simp only [dl_len, hd, ↓wA, ↓wC, wB, frzBE, frzBS, Nat.reduceEqDiff, Nat.reduceAdd, Nat.reduceSub, reduceIte, reduceCtorEq, Nat.reduceBEq, Nat.reduceLT, decide_true]
    rw [ho]
def ytc (stock : Int) (xs : List Row) : List D :=
  if good stock xs then match (rests stock xs)[xs.length - 1]?, xs[xs.length - 1]? with
    | some v, some r => if r.gone = 0 then [.int .i64 0, .bool (decide (v = 0))] else [.int .i64 ((v + r.gone - 1).tdiv r.gone), .bool true]
    | _, _ => [.int .i64 0, .bool false]
  else [.int .i64 0, .bool false]
theorem ytc_bad {stock : Int} {xs : List Row} (h : good stock xs = false) : ytc stock xs = [.int .i64 0, .bool false] := by simp [ytc, h]
theorem ytc_none {stock : Int} {xs : List Row} (h : xs.length = 0) : ytc stock xs = [.int .i64 0, .bool false] := by
  have : xs = [] := List.eq_nil_of_length_eq_zero h
  subst this
  simp [ytc, rests]
theorem tdiv_small {v g : Int} (hv : 0 ≤ v) (hv2 : v ≤ 109989) (h : 0 < g) (hg : g ≤ 30000) : InR .i64 ((v + g - 1).tdiv g) := by
  have h1 : 0 ≤ (v + g - 1).tdiv g := Int.tdiv_nonneg (by omega) (by omega)
  have h2 : (v + g - 1).tdiv g ≤ v + g - 1 := Int.tdiv_le_self _ (by omega)
  exact ⟨by omega, by omega⟩
theorem specYearsToClear_fn (stock : Int) (xs : List Row) (hs : InR .i64 stock) (hlen : xs.length ≤ 1048576) : Fn prog 23 [.int .i64 stock, .sl false 5 (rowsD xs)] (fun rs => rs = ytc stock xs) := by
  refine Fn_of' (fn := f23) (by exact func23) c23 r23 (n := 42) (by rfl) (rv := [.tmp 4, .tmp 5]) (by rfl) (by simp) ?_
  unfold m23
  try simp only [dl_len, ↓wA, ↓wC, wB, frzBE, frzBS, Nat.reduceEqDiff, Nat.reduceAdd, Nat.reduceSub, reduceIte, reduceCtorEq, Nat.reduceBEq, Nat.reduceLT, decide_true]
  refine call_det (l26Good_fn stock xs hs hlen) rfl rfl ?_
  try simp only [↓wA, ↓wC, wB, frzBE, frzBS, Nat.reduceEqDiff, Nat.reduceAdd, Nat.reduceSub, reduceIte, reduceCtorEq, Nat.reduceBEq, Nat.reduceLT, decide_true]
  cases hg : good stock xs with
  | false =>
    try simp only [↓wA, ↓wC, wB, frzBE, frzBS, Nat.reduceEqDiff, Nat.reduceAdd, Nat.reduceSub, reduceIte, reduceCtorEq, Nat.reduceBEq, Nat.reduceLT, decide_true]
    exact (ytc_bad hg).symm
  | true =>
    try simp only [↓wA, ↓wC, wB, frzBE, frzBS, Nat.reduceEqDiff, Nat.reduceAdd, Nat.reduceSub, reduceIte, reduceCtorEq, Nat.reduceBEq, Nat.reduceLT, decide_true]
    by_cases hn : xs.length = 0
    · have hd : decide ((xs.length : Int) = 0) = true := decide_eq_true (by omega)
      try simp only [hd, ↓wA, ↓wC, wB, frzBE, frzBS, Nat.reduceEqDiff, Nat.reduceAdd, Nat.reduceSub, reduceIte, reduceCtorEq, Nat.reduceBEq, Nat.reduceLT, decide_true]
      exact (ytc_none hn).symm
    · have hd : decide ((xs.length : Int) = 0) = false := decide_eq_false (by omega)
      obtain ⟨r, hr⟩ := get_lt (show xs.length - 1 < xs.length by omega)
      obtain ⟨v, hv⟩ := get_lt (show xs.length - 1 < (rests stock xs).length by rw [rests_len]; omega)
      have hr' : xs[((xs.length : Int) - 1).toNat]? = some r := by rw [show ((xs.length : Int) - 1).toNat = xs.length - 1 by omega]; exact hr
      have hv' : (rests stock xs)[((xs.length : Int) - 1).toNat]? = some v := by rw [show ((xs.length : Int) - 1).toNat = xs.length - 1 by omega]; exact hv
      have h1 : (0 : Int) ≤ (xs.length : Int) - 1 := by omega
      have hok := good_ok hg hr
      have hb := ok_bounds hok
      have hvb := good_rest hg hv
      have hgn : r.gone = r.k + r.x + r.g := rfl
      have hy : ytc stock xs = if r.gone = 0 then [.int .i64 0, .bool (decide (v = 0))] else [.int .i64 ((v + r.gone - 1).tdiv r.gone), .bool true] := by simp [ytc, hg, hv, hr]
      try simp only [hd, ↓wA, ↓wC, wB, frzBE, frzBS, Nat.reduceEqDiff, Nat.reduceAdd, Nat.reduceSub, reduceIte, reduceCtorEq, Nat.reduceBEq, Nat.reduceLT, decide_true]
      refine callP_det (l26Rests_fn stock xs hg) rfl rfl ?_
      try simp only [ints_unown, ↓wA, ↓wC, wB, frzBE, frzBS, Nat.reduceEqDiff, Nat.reduceAdd, Nat.reduceSub, reduceIte, reduceCtorEq, Nat.reduceBEq, Nat.reduceLT, decide_true]
      refine onI_bare (by simp only [InR]; omega) ?_
      try simp only [dl_nth, hv', h1, onC_true, Option.map_some, iD, ↓wA, ↓wC, wB, frzBE, frzBS, Nat.reduceEqDiff, Nat.reduceAdd, Nat.reduceSub, reduceIte, reduceCtorEq, Nat.reduceBEq, Nat.reduceLT, decide_true]
      refine onI_bare (by simp only [InR]; omega) ?_
      try simp only [dl_nth, hr', h1, onC_true, Option.map_some, ↓rd_row, ↓wA, ↓wC, wB, frzBE, frzBS, Nat.reduceEqDiff, Nat.reduceAdd, Nat.reduceSub, reduceIte, reduceCtorEq, Nat.reduceBEq, Nat.reduceLT, decide_true]
      refine callP_det (l26Gone_fn r hok) rfl rfl ?_
      try simp only [↓wA, ↓wC, wB, frzBE, frzBS, Nat.reduceEqDiff, Nat.reduceAdd, Nat.reduceSub, reduceIte, reduceCtorEq, Nat.reduceBEq, Nat.reduceLT, decide_true]
      rw [hy]
      by_cases hz : r.gone = 0
      · have hz' : decide (r.gone = 0) = true := by simpa using hz
        try simp only [hz', ↓wA, ↓wC, wB, frzBE, frzBS, Nat.reduceEqDiff, Nat.reduceAdd, Nat.reduceSub, reduceIte, reduceCtorEq, Nat.reduceBEq, Nat.reduceLT, decide_true]
        rw [if_pos hz]
      · have hz' : decide (r.gone = 0) = false := by simpa using hz
        try simp only [hz', ↓wA, ↓wC, wB, frzBE, frzBS, Nat.reduceEqDiff, Nat.reduceAdd, Nat.reduceSub, reduceIte, reduceCtorEq, Nat.reduceBEq, Nat.reduceLT, decide_true]
        refine onI_bare (by simp only [InR]; omega) ?_
        try simp only [↓wA, ↓wC, wB, frzBE, frzBS, Nat.reduceEqDiff, Nat.reduceAdd, Nat.reduceSub, reduceIte, reduceCtorEq, Nat.reduceBEq, Nat.reduceLT, decide_true]
        refine onI_bare (by simp only [InR]; omega) ?_
        try simp only [↓wA, ↓wC, wB, frzBE, frzBS, Nat.reduceEqDiff, Nat.reduceAdd, Nat.reduceSub, reduceIte, reduceCtorEq, Nat.reduceBEq, Nat.reduceLT, decide_true]
        refine onC_i hz ?_
        try simp only [↓wA, ↓wC, wB, frzBE, frzBS, Nat.reduceEqDiff, Nat.reduceAdd, Nat.reduceSub, reduceIte, reduceCtorEq, Nat.reduceBEq, Nat.reduceLT, decide_true]
        refine onI_bare (tdiv_small hvb.1 hvb.2 (by omega) (by omega)) ?_
        try simp only [↓wA, ↓wC, wB, frzBE, frzBS, Nat.reduceEqDiff, Nat.reduceAdd, Nat.reduceSub, reduceIte, reduceCtorEq, Nat.reduceBEq, Nat.reduceLT, decide_true]
        rw [if_neg hz]
theorem ceilDiv_fn (v g : Int) (hv : 0 ≤ v) (hv2 : v ≤ 109989) (h : 0 < g) (hg : g ≤ 30000) : Fn prog 79 [.int .i64 v, .int .i64 g] (fun rs => rs = [.int .i64 ((v + g - 1).tdiv g)]) := by
  refine Fn_of' (fn := f79) (by exact func79) c79 r79 (n := 11) (by rfl) (rv := [.tmp 4]) (by rfl) (by simp) ?_
  unfold m79
  try simp only [↓wA, ↓wC, wB, frzBE, frzBS, Nat.reduceEqDiff, Nat.reduceAdd, Nat.reduceSub, reduceIte, reduceCtorEq, Nat.reduceBEq, Nat.reduceLT, decide_true]
  refine onI_bare (by simp only [InR]; omega) ?_
  try simp only [↓wA, ↓wC, wB, frzBE, frzBS, Nat.reduceEqDiff, Nat.reduceAdd, Nat.reduceSub, reduceIte, reduceCtorEq, Nat.reduceBEq, Nat.reduceLT, decide_true]
  refine onI_bare (by simp only [InR]; omega) ?_
  try simp only [↓wA, ↓wC, wB, frzBE, frzBS, Nat.reduceEqDiff, Nat.reduceAdd, Nat.reduceSub, reduceIte, reduceCtorEq, Nat.reduceBEq, Nat.reduceLT, decide_true]
  refine onC_i (by first | omega | simp) ?_
  try refine onC_i (by omega) ?_
  try simp only [↓wA, ↓wC, wB, frzBE, frzBS, Nat.reduceEqDiff, Nat.reduceAdd, Nat.reduceSub, reduceIte, reduceCtorEq, Nat.reduceBEq, Nat.reduceLT, decide_true]
  refine onI_bare (tdiv_small hv hv2 h hg) ?_
  try simp only [↓wA, ↓wC, wB, frzBE, frzBS, Nat.reduceEqDiff, Nat.reduceAdd, Nat.reduceSub, reduceIte, reduceCtorEq, Nat.reduceBEq, Nat.reduceLT, decide_true]
theorem yearsToClear_fn (stock : Int) (xs : List Row) (hlen : xs.length ≤ 1048576) : Fn prog 22 [.int .i64 stock, .sl false 5 (rowsD xs)] (fun rs => rs = ytc stock xs) := by
  refine Fn_of' (fn := f22) (by exact func22) c22 r22 (n := 45) (by rfl) (rv := [.tmp 4, .tmp 5]) (by rfl) (by simp) ?_
  unfold m22
  try simp only [↓wA, ↓wC, wB, frzBE, frzBS, Nat.reduceEqDiff, Nat.reduceAdd, Nat.reduceSub, reduceIte, reduceCtorEq, Nat.reduceBEq, Nat.reduceLT, decide_true]
  refine call_det (restsAfter_fn stock xs hlen) rfl rfl ?_
  cases hg : good stock xs with
  | false =>
    try simp only [restsR, hg, ints_noOwn, ↓wA, ↓wC, wB, frzBE, frzBS, Nat.reduceEqDiff, Nat.reduceAdd, Nat.reduceSub, reduceIte, reduceCtorEq, Nat.reduceBEq, Nat.reduceLT, decide_true]
    exact (ytc_bad hg).symm
  | true =>
    try simp only [restsR, hg, ints_noOwn, dl_len, rests_len, ↓wA, ↓wC, wB, frzBE, frzBS, Nat.reduceEqDiff, Nat.reduceAdd, Nat.reduceSub, reduceIte, reduceCtorEq, Nat.reduceBEq, Nat.reduceLT, decide_true]
    by_cases hn : xs.length = 0
    · have hd : decide ((xs.length : Int) = 0) = true := decide_eq_true (by omega)
      try simp only [hd, dl_len, rests_len, ↓wA, ↓wC, wB, frzBE, frzBS, Nat.reduceEqDiff, Nat.reduceAdd, Nat.reduceSub, reduceIte, reduceCtorEq, Nat.reduceBEq, Nat.reduceLT, decide_true]
      exact (ytc_none hn).symm
    · have hd : decide ((xs.length : Int) = 0) = false := decide_eq_false (by omega)
      obtain ⟨r, hr⟩ := get_lt (show xs.length - 1 < xs.length by omega)
      obtain ⟨v, hv⟩ := get_lt (show xs.length - 1 < (rests stock xs).length by rw [rests_len]; omega)
      have hr' : xs[((xs.length : Int) - 1).toNat]? = some r := by rw [show ((xs.length : Int) - 1).toNat = xs.length - 1 by omega]; exact hr
      have hv' : (rests stock xs)[((xs.length : Int) - 1).toNat]? = some v := by rw [show ((xs.length : Int) - 1).toNat = xs.length - 1 by omega]; exact hv
      have h1 : (0 : Int) ≤ (xs.length : Int) - 1 := by omega
      have hok := good_ok hg hr
      have hb := ok_bounds hok
      have hvb := good_rest hg hv
      have hgn : r.gone = r.k + r.x + r.g := rfl
      have hy : ytc stock xs = if r.gone = 0 then [.int .i64 0, .bool (decide (v = 0))] else [.int .i64 ((v + r.gone - 1).tdiv r.gone), .bool true] := by simp [ytc, hg, hv, hr]
      try simp only [hd, dl_len, rests_len, ↓wA, ↓wC, wB, frzBE, frzBS, Nat.reduceEqDiff, Nat.reduceAdd, Nat.reduceSub, reduceIte, reduceCtorEq, Nat.reduceBEq, Nat.reduceLT, decide_true]
      refine onI_bare (by simp only [InR]; omega) ?_
      try simp only [dl_len, dl_nth, hv', h1, onC_true, Option.map_some, iD, ↓wA, ↓wC, wB, frzBE, frzBS, Nat.reduceEqDiff, Nat.reduceAdd, Nat.reduceSub, reduceIte, reduceCtorEq, Nat.reduceBEq, Nat.reduceLT, decide_true]
      refine onI_bare (by simp only [InR]; omega) ?_
      try simp only [dl_nth, hr', h1, onC_true, Option.map_some, ↓rd_row, ↓wA, ↓wC, wB, frzBE, frzBS, Nat.reduceEqDiff, Nat.reduceAdd, Nat.reduceSub, reduceIte, reduceCtorEq, Nat.reduceBEq, Nat.reduceLT, decide_true]
      refine callP_det (gone_fn r hok) rfl rfl ?_
      try simp only [↓wA, ↓wC, wB, frzBE, frzBS, Nat.reduceEqDiff, Nat.reduceAdd, Nat.reduceSub, reduceIte, reduceCtorEq, Nat.reduceBEq, Nat.reduceLT, decide_true]
      rw [hy]
      by_cases hv0 : v = 0
      · have hvd : decide (v = 0) = true := decide_eq_true hv0
        try simp only [hvd, ↓wA, ↓wC, wB, frzBE, frzBS, Nat.reduceEqDiff, Nat.reduceAdd, Nat.reduceSub, reduceIte, reduceCtorEq, Nat.reduceBEq, Nat.reduceLT, decide_true]
        by_cases hz : r.gone = 0
        · rw [if_pos hz]
        · rw [if_neg hz, hv0, show (0 : Int) + r.gone - 1 = r.gone - 1 by omega, Int.tdiv_eq_zero_of_lt (by omega) (by omega)]
      · have hvd : decide (v = 0) = false := decide_eq_false hv0
        try simp only [hvd, ↓wA, ↓wC, wB, frzBE, frzBS, Nat.reduceEqDiff, Nat.reduceAdd, Nat.reduceSub, reduceIte, reduceCtorEq, Nat.reduceBEq, Nat.reduceLT, decide_true]
        by_cases hz : r.gone = 0
        · have hz' : decide (r.gone = 0) = true := decide_eq_true hz
          try simp only [hz', ↓wA, ↓wC, wB, frzBE, frzBS, Nat.reduceEqDiff, Nat.reduceAdd, Nat.reduceSub, reduceIte, reduceCtorEq, Nat.reduceBEq, Nat.reduceLT, decide_true]
          rw [if_pos hz]
        · have hz' : decide (r.gone = 0) = false := decide_eq_false hz
          try simp only [hz', ↓wA, ↓wC, wB, frzBE, frzBS, Nat.reduceEqDiff, Nat.reduceAdd, Nat.reduceSub, reduceIte, reduceCtorEq, Nat.reduceBEq, Nat.reduceLT, decide_true]
          refine call_det (ceilDiv_fn v r.gone hvb.1 hvb.2 (by omega) (by omega)) rfl rfl ?_
          try simp only [↓wA, ↓wC, wB, frzBE, frzBS, Nat.reduceEqDiff, Nat.reduceAdd, Nat.reduceSub, reduceIte, reduceCtorEq, Nat.reduceBEq, Nat.reduceLT, decide_true]
          rw [if_neg hz]
end Go.Pe.Try

set_option maxRecDepth 100000
set_option maxHeartbeats 4000000
set_option linter.all false
namespace Go.Pe.Try
open Go.Proofs.Try
end Go.Pe.Try

set_option maxRecDepth 100000
set_option maxHeartbeats 4000000
set_option linter.all false
namespace Go.Pe.Try
open Go.Proofs.Try
structure UpTo (v : List Int) (i b : Nat) (m : Int) : Prop where
  lt : b < i
  at_ : v[b]? = some m
  le : ∀ j w, j < i → v[j]? = some w → w ≤ m
  first : ∀ j w, j < b → v[j]? = some w → w < m
theorem upTo_init {v : List Int} {m : Int} (h : v[0]? = some m) : UpTo v 1 0 m :=
  ⟨by omega, h, fun j w hj hw => by
    have : j = 0 := by omega
    subst this
    rw [h] at hw; injection hw with hw; omega, fun j w hj _ => by omega⟩
theorem upTo_more {v : List Int} {i b : Nat} {m w : Int} (h : UpTo v i b m) (hw : v[i]? = some w) (hl : m < w) : UpTo v (i + 1) i w :=
  ⟨by omega, hw, fun j u hj hu => by
    by_cases e : j = i
    · subst e; rw [hw] at hu; injection hu with hu; omega
    · have := h.le j u (by omega) hu; omega, fun j u hj hu => by have := h.le j u hj hu; omega⟩
theorem upTo_keep {v : List Int} {i b : Nat} {m w : Int} (h : UpTo v i b m) (hw : v[i]? = some w) (hl : ¬ m < w) : UpTo v (i + 1) b m :=
  ⟨by have := h.lt; omega, h.at_, fun j u hj hu => by
    by_cases e : j = i
    · subst e; rw [hw] at hu; injection hu with hu; omega
    · exact h.le j u (by omega) hu, h.first⟩
theorem upTo_ex {v : List Int} : ∀ i, i + 1 ≤ v.length → ∃ b m, UpTo v (i + 1) b m
  | 0, h => by
    obtain ⟨m, hm⟩ := get_lt (show 0 < v.length by omega)
    exact ⟨0, m, upTo_init hm⟩
  | i + 1, h => by
    obtain ⟨b, m, hb⟩ := upTo_ex (v := v) i (by omega)
    obtain ⟨w, hw⟩ := get_lt (show i + 1 < v.length by omega)
    by_cases hl : m < w
    · exact ⟨_, _, upTo_more hb hw hl⟩
    · exact ⟨_, _, upTo_keep hb hw hl⟩
theorem upTo_uniq {v : List Int} {i b b' : Nat} {m m' : Int} (h : UpTo v i b m) (h' : UpTo v i b' m') : b = b' ∧ m = m' := by
  have e : b = b' := by
    rcases Nat.lt_trichotomy b b' with hl | hl | hl
    · have h1 := h'.first b m hl h.at_
      have h2 := h.le b' m' h'.lt h'.at_
      omega
    · exact hl
    · have h1 := h.first b' m' hl h'.at_
      have h2 := h'.le b m h.lt h.at_
      omega
  subst e
  have := h.at_.symm.trans h'.at_
  injection this with this
  exact ⟨rfl, this⟩
theorem max_fn (v : List Int) (b : Nat) (m : Int) (hb : UpTo v v.length b m) (hlen : v.length ≤ 1048576) : Fn prog 74 [.sl false 1 (dl iD v)] (fun rs => rs = [.int .i64 m]) := by
  have hpos := hb.lt
  obtain ⟨m0, hm0⟩ := get_lt (show 0 < v.length by omega)
  have hd1 : decide ((v.length : Int) < 1) = false := decide_eq_false (by omega)
  refine Fn_of' (fn := f74) (by exact func74) c74 r74 (n := 25) (by rfl) (rv := [.tmp 2]) (by rfl) (by simp) ?_
  unfold m74
  try simp only [dl_len, hd1, ↓wA, ↓wC, wB, frzBE, frzBS, Nat.reduceEqDiff, Nat.reduceAdd, Nat.reduceSub, reduceIte, reduceCtorEq, Nat.reduceBEq, Nat.reduceLT, decide_true]
  refine onC_i (by omega) ?_
  try simp only [dl_nth, Int.toNat_zero, hm0, Option.map_some, iD, ↓wA, ↓wC, wB, frzBE, frzBS, Nat.reduceEqDiff, Nat.reduceAdd, Nat.reduceSub, reduceIte, reduceCtorEq, Nat.reduceBEq, Nat.reduceLT, decide_true]
  refine exec_loop (fun p : Nat × Nat × Int => ⟨[(0, .d (.sl false 1 (dl iD v))), (3, .d (.int .i64 p.2.2)), (4, .d (.int .i64 p.1))], []⟩)
    (fun p => p.1 ≤ v.length ∧ UpTo v p.1 p.2.1 p.2.2) (fun p => v.length - p.1) (1, 0, m0)
    (weak_of [] rfl ⟨⟨rfl, rfl⟩, ⟨rfl, rfl⟩, ⟨rfl, rfl⟩, trivial⟩) ⟨by simp only; omega, upTo_init hm0⟩ ?_
  rintro ⟨i, bi, mi⟩ ⟨hi, hu⟩
  simp only at hi hu
  by_cases hlt : i < v.length
  · obtain ⟨w, hw⟩ := get_lt hlt
    have hd : decide ((i : Int) < (v.length : Int)) = true := decide_eq_true (by omega)
    have h0 : (0 : Int) ≤ (i : Int) := by omega
    try simp only [dl_len, hd, dl_nth, Int.toNat_natCast, hw, Option.map_some, h0, onC_true, iD, ↓wA, ↓wC, wB, frzBE, frzBS, Nat.reduceEqDiff, Nat.reduceAdd, Nat.reduceSub, reduceIte, reduceCtorEq, Nat.reduceBEq, Nat.reduceLT, decide_true]
    refine onI_bare (by simp only [InR]; omega) ?_
    by_cases hl : mi < w
    · rw [Int.max_eq_right (by omega)]
      exact ⟨(i + 1, i, w), weak_of _ rfl ⟨⟨rfl, rfl⟩, ⟨rfl, rfl⟩, ⟨rfl, rfl⟩, trivial⟩, ⟨by simp only; omega, upTo_more hu hw hl⟩, by simp only; omega⟩
    · rw [Int.max_eq_left (by omega)]
      exact ⟨(i + 1, bi, mi), weak_of _ rfl ⟨⟨rfl, rfl⟩, ⟨rfl, rfl⟩, ⟨rfl, rfl⟩, trivial⟩, ⟨by simp only; omega, upTo_keep hu hw hl⟩, by simp only; omega⟩
  · have hd : decide ((i : Int) < (v.length : Int)) = false := decide_eq_false (by omega)
    have e : i = v.length := by omega
    rw [e] at hu
    have := (upTo_uniq hu hb).2
    try simp only [dl_len, hd, ↓wA, ↓wC, wB, frzBE, frzBS, Nat.reduceEqDiff, Nat.reduceAdd, Nat.reduceSub, reduceIte, reduceCtorEq, Nat.reduceBEq, Nat.reduceLT, decide_true]
    rw [this]
theorem index_fn (v : List Int) (b : Nat) (m : Int) (hb : UpTo v v.length b m) (hlen : v.length ≤ 1048576) : Fn prog 75 [.sl false 1 (dl iD v), .int .i64 m] (fun rs => rs = [.int .i64 b]) := by
  have hbl := hb.lt
  refine Fn_of' (fn := f75) (by exact func75) c75 r75 (n := 19) (by rfl) (rv := [.tmp 4]) (by rfl) (by simp) ?_
  unfold m75
  try simp only [dl_len, ↓wA, ↓wC, wB, frzBE, frzBS, Nat.reduceEqDiff, Nat.reduceAdd, Nat.reduceSub, reduceIte, reduceCtorEq, Nat.reduceBEq, Nat.reduceLT, decide_true]
  refine exec_loop (fun i : Nat => ⟨[(0, .d (.sl false 1 (dl iD v))), (1, .d (.int .i64 m)), (7, .d (.int .i64 v.length)), (8, .d (.int .i64 i))], []⟩)
    (fun i => i ≤ b) (fun i => v.length - i) 0
    (weak_of [] rfl ⟨⟨rfl, rfl⟩, ⟨rfl, rfl⟩, ⟨rfl, rfl⟩, ⟨rfl, rfl⟩, trivial⟩) (Nat.zero_le _) ?_
  intro i hi
  obtain ⟨w, hw⟩ := get_lt (show i < v.length by omega)
  have hd : decide ((i : Int) < (v.length : Int)) = true := decide_eq_true (by omega)
  have h0 : (0 : Int) ≤ (i : Int) := by omega
  try simp only [dl_len, hd, dl_nth, Int.toNat_natCast, hw, Option.map_some, h0, onC_true, iD, ↓wA, ↓wC, wB, frzBE, frzBS, Nat.reduceEqDiff, Nat.reduceAdd, Nat.reduceSub, reduceIte, reduceCtorEq, Nat.reduceBEq, Nat.reduceLT, decide_true]
  by_cases he : i = b
  · have hm := hb.at_
    rw [← he, hw] at hm
    injection hm with hm
    have hd2 : decide (m = w) = true := decide_eq_true hm.symm
    try simp only [hd2, ↓wA, ↓wC, wB, frzBE, frzBS, Nat.reduceEqDiff, Nat.reduceAdd, Nat.reduceSub, reduceIte, reduceCtorEq, Nat.reduceBEq, Nat.reduceLT, decide_true]
    rw [he]
  · have := hb.first i w (by omega) hw
    have hd2 : decide (m = w) = false := decide_eq_false (by omega)
    try simp only [hd2, ↓wA, ↓wC, wB, frzBE, frzBS, Nat.reduceEqDiff, Nat.reduceAdd, Nat.reduceSub, reduceIte, reduceCtorEq, Nat.reduceBEq, Nat.reduceLT, decide_true]
    refine onI_bare (by simp only [InR]; omega) ?_
    exact ⟨i + 1, weak_of _ rfl ⟨⟨rfl, rfl⟩, ⟨rfl, rfl⟩, ⟨rfl, rfl⟩, ⟨rfl, rfl⟩, trivial⟩, by omega, by omega⟩
/-- what LargestRest answers, at a best place. -/
def lr (xs : List Row) (b : Nat) (m : Int) : List D := [.int .i64 ((xs[b]?.map Row.y).getD 0), .int .i64 m, .bool true]
def lrBad : List D := [.int .i64 0, .int .i64 0, .bool false]
theorem specLargest_bad (stock : Int) (xs : List Row) (hs : InR .i64 stock) (hlen : xs.length ≤ 1048576) (h : good stock xs = false ∨ xs.length = 0) : Fn prog 19 [.int .i64 stock, .sl false 5 (rowsD xs)] (fun rs => rs = lrBad) := by
  refine Fn_of' (fn := f19) (by exact func19) c19 r19 (n := 47) (by rfl) (rv := [.tmp 4, .tmp 5, .tmp 6]) (by rfl) (by simp) ?_
  unfold m19
  try simp only [dl_len, ↓wA, ↓wC, wB, frzBE, frzBS, Nat.reduceEqDiff, Nat.reduceAdd, Nat.reduceSub, reduceIte, reduceCtorEq, Nat.reduceBEq, Nat.reduceLT, decide_true]
  refine call_det (l26Good_fn stock xs hs hlen) rfl rfl ?_
  try simp only [↓wA, ↓wC, wB, frzBE, frzBS, Nat.reduceEqDiff, Nat.reduceAdd, Nat.reduceSub, reduceIte, reduceCtorEq, Nat.reduceBEq, Nat.reduceLT, decide_true]
  cases hg : good stock xs with
  | false =>
    try simp only [↓wA, ↓wC, wB, frzBE, frzBS, Nat.reduceEqDiff, Nat.reduceAdd, Nat.reduceSub, reduceIte, reduceCtorEq, Nat.reduceBEq, Nat.reduceLT, decide_true]
    rfl
  | true =>
    have hd : decide ((xs.length : Int) = 0) = true := decide_eq_true (by rcases h with h | h; rw [hg] at h; cases h; omega)
    try simp only [hd, dl_len, ↓wA, ↓wC, wB, frzBE, frzBS, Nat.reduceEqDiff, Nat.reduceAdd, Nat.reduceSub, reduceIte, reduceCtorEq, Nat.reduceBEq, Nat.reduceLT, decide_true]
    rfl
theorem largest_bad (stock : Int) (xs : List Row) (hlen : xs.length ≤ 1048576) (h : good stock xs = false ∨ xs.length = 0) : Fn prog 18 [.int .i64 stock, .sl false 5 (rowsD xs)] (fun rs => rs = lrBad) := by
  refine Fn_of' (fn := f18) (by exact func18) c18 r18 (n := 33) (by rfl) (rv := [.tmp 4, .tmp 5, .tmp 6]) (by rfl) (by simp) ?_
  unfold m18
  try simp only [↓wA, ↓wC, wB, frzBE, frzBS, Nat.reduceEqDiff, Nat.reduceAdd, Nat.reduceSub, reduceIte, reduceCtorEq, Nat.reduceBEq, Nat.reduceLT, decide_true]
  refine call_det (restsAfter_fn stock xs hlen) rfl rfl ?_
  cases hg : good stock xs with
  | false =>
    try simp only [restsR, hg, ints_noOwn, ↓wA, ↓wC, wB, frzBE, frzBS, Nat.reduceEqDiff, Nat.reduceAdd, Nat.reduceSub, reduceIte, reduceCtorEq, Nat.reduceBEq, Nat.reduceLT, decide_true]
    rfl
  | true =>
    have hd : decide ((xs.length : Int) = 0) = true := decide_eq_true (by rcases h with h | h; rw [hg] at h; cases h; omega)
    try simp only [restsR, hg, ints_noOwn, dl_len, rests_len, hd, ↓wA, ↓wC, wB, frzBE, frzBS, Nat.reduceEqDiff, Nat.reduceAdd, Nat.reduceSub, reduceIte, reduceCtorEq, Nat.reduceBEq, Nat.reduceLT, decide_true]
    rfl
theorem largest_fn (stock : Int) (xs : List Row) (hlen : xs.length ≤ 1048576) (hg : good stock xs = true) (hn : xs.length ≠ 0) (b : Nat) (m : Int) (hb : UpTo (rests stock xs) (rests stock xs).length b m) : Fn prog 18 [.int .i64 stock, .sl false 5 (rowsD xs)] (fun rs => rs = lr xs b m) := by
  have hd : decide ((xs.length : Int) = 0) = false := decide_eq_false (by omega)
  have hbl := hb.lt
  rw [rests_len] at hbl
  obtain ⟨r, hr⟩ := get_lt hbl
  have h0 : (0 : Int) ≤ (b : Int) := by omega
  refine Fn_of' (fn := f18) (by exact func18) c18 r18 (n := 33) (by rfl) (rv := [.tmp 4, .tmp 5, .tmp 6]) (by rfl) (by simp) ?_
  unfold m18
  try simp only [↓wA, ↓wC, wB, frzBE, frzBS, Nat.reduceEqDiff, Nat.reduceAdd, Nat.reduceSub, reduceIte, reduceCtorEq, Nat.reduceBEq, Nat.reduceLT, decide_true]
  refine call_det (restsAfter_fn stock xs hlen) rfl rfl ?_
  try simp only [restsR, hg, ints_noOwn, dl_len, rests_len, hd, ↓wA, ↓wC, wB, frzBE, frzBS, Nat.reduceEqDiff, Nat.reduceAdd, Nat.reduceSub, reduceIte, reduceCtorEq, Nat.reduceBEq, Nat.reduceLT, decide_true]
  refine call_det (max_fn (rests stock xs) b m hb (by rw [rests_len]; exact hlen)) (by simp [argsD, argD, valOf, D.unown, ints_unown]) rfl ?_
  try simp only [↓wA, ↓wC, wB, frzBE, frzBS, Nat.reduceEqDiff, Nat.reduceAdd, Nat.reduceSub, reduceIte, reduceCtorEq, Nat.reduceBEq, Nat.reduceLT, decide_true]
  refine call_det (index_fn (rests stock xs) b m hb (by rw [rests_len]; exact hlen)) (by simp [argsD, argD, valOf, D.unown, ints_unown]) rfl ?_
  try simp only [dl_nth, Int.toNat_natCast, hr, Option.map_some, h0, onC_true, ↓fa_row0, ↓wA, ↓wC, wB, frzBE, frzBS, Nat.reduceEqDiff, Nat.reduceAdd, Nat.reduceSub, reduceIte, reduceCtorEq, Nat.reduceBEq, Nat.reduceLT, decide_true]
  simp [lr, hr]
theorem specLargest_fn (stock : Int) (xs : List Row) (hs : InR .i64 stock) (hlen : xs.length ≤ 1048576) (hg : good stock xs = true) (hn : xs.length ≠ 0) (b : Nat) (m : Int) (hb : UpTo (rests stock xs) (rests stock xs).length b m) : Fn prog 19 [.int .i64 stock, .sl false 5 (rowsD xs)] (fun rs => rs = lr xs b m) := by
  have hd : decide ((xs.length : Int) = 0) = false := decide_eq_false (by omega)
  have hl := rests_len xs stock
  obtain ⟨m0, hm0⟩ := get_lt (show 0 < (rests stock xs).length by omega)
  refine Fn_of' (fn := f19) (by exact func19) c19 r19 (n := 47) (by rfl) (rv := [.tmp 4, .tmp 5, .tmp 6]) (by rfl) (by simp) ?_
  unfold m19
  try simp only [dl_len, ↓wA, ↓wC, wB, frzBE, frzBS, Nat.reduceEqDiff, Nat.reduceAdd, Nat.reduceSub, reduceIte, reduceCtorEq, Nat.reduceBEq, Nat.reduceLT, decide_true]
  refine call_det (l26Good_fn stock xs hs hlen) rfl rfl ?_
  try simp only [hg, hd, dl_len, ↓wA, ↓wC, wB, frzBE, frzBS, Nat.reduceEqDiff, Nat.reduceAdd, Nat.reduceSub, reduceIte, reduceCtorEq, Nat.reduceBEq, Nat.reduceLT, decide_true]
  refine call_det (l26Rests_fn stock xs hg) rfl rfl ?_
  try simp only [ints_noOwn, ↓wA, ↓wC, wB, frzBE, frzBS, Nat.reduceEqDiff, Nat.reduceAdd, Nat.reduceSub, reduceIte, reduceCtorEq, Nat.reduceBEq, Nat.reduceLT, decide_true]
  refine exec_loop (fun p : Nat × Nat × Int => ⟨[(1, .d (.sl false 5 (rowsD xs))), (7, .own 0), (8, .d (.int .i64 p.2.1)), (9, .d (.int .i64 p.1))], [.val (.sl true 1 (dl iD (rests stock xs)))]⟩)
    (fun p => p.1 ≤ xs.length ∧ UpTo (rests stock xs) p.1 p.2.1 p.2.2) (fun p => xs.length - p.1) (1, 0, m0)
    (weak_of [] rfl ⟨⟨rfl, rfl⟩, ⟨rfl, rfl⟩, ⟨rfl, rfl⟩, ⟨rfl, rfl⟩, trivial⟩) ⟨by simp only; omega, upTo_init hm0⟩ ?_
  rintro ⟨i, bi, mi⟩ ⟨hi, hu⟩
  simp only at hi hu
  have hbi : (0 : Int) ≤ (bi : Int) := by omega
  have hmi := hu.at_
  by_cases hlt : i < xs.length
  · obtain ⟨w, hw⟩ := get_lt (show i < (rests stock xs).length by omega)
    have hdi : decide ((i : Int) < (xs.length : Int)) = true := decide_eq_true (by omega)
    have h0 : (0 : Int) ≤ (i : Int) := by omega
    try simp only [dl_len, rests_len, hdi, dl_nth, Int.toNat_natCast, hw, hmi, hbi, Option.map_some, h0, onC_true, iD, ↓wA, ↓wC, wB, frzBE, frzBS, Nat.reduceEqDiff, Nat.reduceAdd, Nat.reduceSub, reduceIte, reduceCtorEq, Nat.reduceBEq, Nat.reduceLT, decide_true]
    by_cases hlw : mi < w
    · have hd2 : decide (mi < w) = true := decide_eq_true hlw
      try simp only [hd2, ↓wA, ↓wC, wB, frzBE, frzBS, Nat.reduceEqDiff, Nat.reduceAdd, Nat.reduceSub, reduceIte, reduceCtorEq, Nat.reduceBEq, Nat.reduceLT, decide_true]
      refine onI_bare (by simp only [InR]; omega) ?_
      exact ⟨(i + 1, i, w), weak_of _ rfl ⟨⟨rfl, rfl⟩, ⟨rfl, rfl⟩, ⟨rfl, rfl⟩, ⟨rfl, rfl⟩, trivial⟩, ⟨by simp only; omega, upTo_more hu hw hlw⟩, by simp only; omega⟩
    · have hd2 : decide (mi < w) = false := decide_eq_false hlw
      try simp only [hd2, ↓wA, ↓wC, wB, frzBE, frzBS, Nat.reduceEqDiff, Nat.reduceAdd, Nat.reduceSub, reduceIte, reduceCtorEq, Nat.reduceBEq, Nat.reduceLT, decide_true]
      refine onI_bare (by simp only [InR]; omega) ?_
      exact ⟨(i + 1, bi, mi), weak_of _ rfl ⟨⟨rfl, rfl⟩, ⟨rfl, rfl⟩, ⟨rfl, rfl⟩, ⟨rfl, rfl⟩, trivial⟩, ⟨by simp only; omega, upTo_keep hu hw hlw⟩, by simp only; omega⟩
  · have hdi : decide ((i : Int) < (xs.length : Int)) = false := decide_eq_false (by omega)
    have e : i = (rests stock xs).length := by omega
    rw [e] at hu
    obtain ⟨e1, e2⟩ := upTo_uniq hu hb
    subst e1 e2
    have hbl := hb.lt
    obtain ⟨r, hr⟩ := get_lt (show bi < xs.length by omega)
    try simp only [dl_len, rests_len, hdi, dl_nth, Int.toNat_natCast, hr, hmi, hbi, Option.map_some, onC_true, ↓fa_row0, iD, ↓wA, ↓wC, wB, frzBE, frzBS, Nat.reduceEqDiff, Nat.reduceAdd, Nat.reduceSub, reduceIte, reduceCtorEq, Nat.reduceBEq, Nat.reduceLT, decide_true]
    simp [lr, hr]
end Go.Pe.Try

set_option maxRecDepth 100000
set_option maxHeartbeats 4000000
set_option linter.all false
namespace Go.Pe.Try
open Go.Proofs.Try
end Go.Pe.Try

set_option maxRecDepth 100000
set_option maxHeartbeats 4000000
set_option linter.all false
namespace Go.Pe.Try
open Go.Proofs.Try
def sumX : List Row → Int
  | [] => 0
  | r :: rs => r.x + sumX rs
def sumG : List Row → Int
  | [] => 0
  | r :: rs => r.gone + sumG rs
theorem sums_bound : ∀ xs : List Row, (∀ r ∈ xs, r.ok = true) → 0 ≤ sumX xs ∧ sumX xs ≤ 9999 * xs.length ∧ 0 ≤ sumG xs ∧ sumG xs ≤ 29997 * xs.length
  | [], _ => by simp [sumX, sumG]
  | r :: xs, h => by
    have hb := ok_bounds (h r (by simp))
    have hg : r.gone = r.k + r.x + r.g := rfl
    have := sums_bound xs fun q hq => h q (by simp [hq])
    simp only [sumX, sumG, List.length_cons, Int.natCast_add]
    omega
theorem l1Most_fn (a b : Int) : Fn prog 100 [.int .i64 a, .int .i64 b] (fun rs => rs = [.int .i64 (if b < a then a else b)]) := by
  refine Fn_of' (fn := f100) (by exact func100) c100 r100 (n := 10) (by rfl) (rv := [.tmp 4]) (by rfl) (by simp) ?_
  unfold m100
  repeat' (first
      | (simp only [↓wA, ↓wC, wB, frzBE, frzBS, Nat.reduceEqDiff, Nat.reduceAdd, Nat.reduceSub, reduceIte, reduceCtorEq, Nat.reduceBEq, Nat.reduceLT, decide_true])
      | (refine execG_split (fun h => ?_) (fun h => ?_) <;> simp only [h])
      | (refine execC_split (fun h => ?_) (fun h => ?_) <;> (try simp only [h]))
      | (refine onPick_split (fun h => ?_) (fun h => ?_) <;> (try simp only [h])))
  all_goals simp_all
  all_goals omega
theorem tmod_cast (a b : Nat) : ((a : Int).tmod (b : Int)) = ((a % b : Nat) : Int) := rfl
theorem abs_fn (a : Nat) : Fn prog 137 [.int .i64 a] (fun rs => rs = [.int .i64 a]) := by
  have hd : decide ((a : Int) < 0) = false := decide_eq_false (by omega)
  refine Fn_of' (fn := f137) (by exact func137) c137 r137 (n := 8) (by rfl) (rv := [.tmp 2]) (by rfl) (by simp) ?_
  unfold m137
  simp only [hd, ↓wA, ↓wC, wB, frzBE, frzBS, Nat.reduceEqDiff, Nat.reduceAdd, Nat.reduceSub, reduceIte, reduceCtorEq, Nat.reduceBEq, Nat.reduceLT, decide_true]
theorem gcd_fn (a b : Nat) : Fn prog 127 [.int .i64 a, .int .i64 b] (fun rs => rs = [.int .i64 (Nat.gcd a b)]) := by
  refine Fn_of' (fn := f127) (by exact func127) c127 r127 (n := 16) (by rfl) (rv := [.tmp 4]) (by rfl) (by simp) ?_
  unfold m127
  try simp only [↓wA, ↓wC, wB, frzBE, frzBS, Nat.reduceEqDiff, Nat.reduceAdd, Nat.reduceSub, reduceIte, reduceCtorEq, Nat.reduceBEq, Nat.reduceLT, decide_true]
  refine call_det (abs_fn a) rfl rfl ?_
  try simp only [↓wA, ↓wC, wB, frzBE, frzBS, Nat.reduceEqDiff, Nat.reduceAdd, Nat.reduceSub, reduceIte, reduceCtorEq, Nat.reduceBEq, Nat.reduceLT, decide_true]
  refine call_det (abs_fn b) rfl rfl ?_
  try simp only [↓wA, ↓wC, wB, frzBE, frzBS, Nat.reduceEqDiff, Nat.reduceAdd, Nat.reduceSub, reduceIte, reduceCtorEq, Nat.reduceBEq, Nat.reduceLT, decide_true]
  refine exec_loop (fun p : Nat × Nat => ⟨[(0, .d (.int .i64 p.1)), (1, .d (.int .i64 p.2))], []⟩) (fun p => Nat.gcd p.1 p.2 = Nat.gcd a b) (fun p => p.2) (a, b) (weak_of [] rfl ⟨⟨rfl, rfl⟩, ⟨rfl, rfl⟩, trivial⟩) rfl ?_
  rintro ⟨p, q⟩ hg
  simp only at hg
  by_cases hq : q = 0
  · subst hq
    have hd : decide (((0 : Nat) : Int) = 0) = true := decide_eq_true rfl
    try simp only [hd, ↓wA, ↓wC, wB, frzBE, frzBS, Nat.reduceEqDiff, Nat.reduceAdd, Nat.reduceSub, reduceIte, reduceCtorEq, Nat.reduceBEq, Nat.reduceLT, decide_true]
    rw [← hg, Nat.gcd_zero_right]
  · have hd : decide ((q : Int) = 0) = false := decide_eq_false (by omega)
    try simp only [hd, ↓wA, ↓wC, wB, frzBE, frzBS, Nat.reduceEqDiff, Nat.reduceAdd, Nat.reduceSub, reduceIte, reduceCtorEq, Nat.reduceBEq, Nat.reduceLT, decide_true]
    refine onC_i (by omega) ?_
    try simp only [tmod_cast, ↓wA, ↓wC, wB, frzBE, frzBS, Nat.reduceEqDiff, Nat.reduceAdd, Nat.reduceSub, reduceIte, reduceCtorEq, Nat.reduceBEq, Nat.reduceLT, decide_true]
    exact ⟨(q, p % q), weak_of [] rfl ⟨⟨rfl, rfl⟩, ⟨rfl, rfl⟩, trivial⟩, by rw [← hg, Nat.gcd_comm p q, Nat.gcd_rec q p, Nat.gcd_comm], Nat.mod_lt _ (by omega)⟩
def lowest (a b : Nat) : List D := [.int .i64 ((a : Int).tdiv (Nat.gcd a b : Nat)), .int .i64 ((b : Int).tdiv (Nat.gcd a b : Nat))]
theorem tdiv_inR (a g : Nat) (h : a ≤ 1000000) : InR .i64 ((a : Int).tdiv (g : Int)) := by
  have h1 : 0 ≤ (a : Int).tdiv (g : Int) := Int.tdiv_nonneg (by omega) (by omega)
  have h2 : (a : Int).tdiv (g : Int) ≤ a := Int.tdiv_le_self _ (by omega)
  exact ⟨by omega, by omega⟩
theorem reduced_fn (a b : Nat) (ha : a ≤ 1000000) (hb : b ≤ 1000000) (h0 : 0 < b) : Fn prog 82 [.int .i64 a, .int .i64 b] (fun rs => rs = lowest a b) := by
  have hg : ((Nat.gcd a b : Nat) : Int) ≠ 0 := by have := Nat.gcd_pos_of_pos_right a h0; omega
  refine Fn_of' (fn := f82) (by exact func82) c82 r82 (n := 16) (by rfl) (rv := [.tmp 4, .tmp 5]) (by rfl) (by simp) ?_
  unfold m82
  try simp only [↓wA, ↓wC, wB, frzBE, frzBS, Nat.reduceEqDiff, Nat.reduceAdd, Nat.reduceSub, reduceIte, reduceCtorEq, Nat.reduceBEq, Nat.reduceLT, decide_true]
  refine call_det (gcd_fn a b) rfl rfl ?_
  try simp only [↓wA, ↓wC, wB, frzBE, frzBS, Nat.reduceEqDiff, Nat.reduceAdd, Nat.reduceSub, reduceIte, reduceCtorEq, Nat.reduceBEq, Nat.reduceLT, decide_true]
  refine onC_i hg ?_
  try simp only [↓wA, ↓wC, wB, frzBE, frzBS, Nat.reduceEqDiff, Nat.reduceAdd, Nat.reduceSub, reduceIte, reduceCtorEq, Nat.reduceBEq, Nat.reduceLT, decide_true]
  refine onI_bare (tdiv_inR a _ ha) ?_
  try simp only [↓wA, ↓wC, wB, frzBE, frzBS, Nat.reduceEqDiff, Nat.reduceAdd, Nat.reduceSub, reduceIte, reduceCtorEq, Nat.reduceBEq, Nat.reduceLT, decide_true]
  refine onC_i hg ?_
  try simp only [↓wA, ↓wC, wB, frzBE, frzBS, Nat.reduceEqDiff, Nat.reduceAdd, Nat.reduceSub, reduceIte, reduceCtorEq, Nat.reduceBEq, Nat.reduceLT, decide_true]
  refine onI_bare (tdiv_inR b _ hb) ?_
  try simp only [↓wA, ↓wC, wB, frzBE, frzBS, Nat.reduceEqDiff, Nat.reduceAdd, Nat.reduceSub, reduceIte, reduceCtorEq, Nat.reduceBEq, Nat.reduceLT, decide_true]
  rfl
theorem l2Reduce_fn (a b : Nat) (ha : a ≤ 1000000) (hb : b ≤ 1000000) (h0 : 0 < b) : Fn prog 83 [.int .i64 a, .int .i64 b] (fun rs => rs = lowest a b) := by
  have hg : ((Nat.gcd a b : Nat) : Int) ≠ 0 := by have := Nat.gcd_pos_of_pos_right a h0; omega
  have hm : (if -(a : Int) < (a : Int) then (a : Int) else -(a : Int)) = a := by split <;> omega
  refine Fn_of' (fn := f83) (by exact func83) c83 r83 (n := 27) (by rfl) (rv := [.tmp 4, .tmp 5]) (by rfl) (by simp) ?_
  unfold m83
  try simp only [↓wA, ↓wC, wB, frzBE, frzBS, Nat.reduceEqDiff, Nat.reduceAdd, Nat.reduceSub, reduceIte, reduceCtorEq, Nat.reduceBEq, Nat.reduceLT, decide_true]
  refine onI_bare (by simp only [InR]; omega) ?_
  try simp only [↓wA, ↓wC, wB, frzBE, frzBS, Nat.reduceEqDiff, Nat.reduceAdd, Nat.reduceSub, reduceIte, reduceCtorEq, Nat.reduceBEq, Nat.reduceLT, decide_true]
  refine call_det (l1Most_fn _ _) rfl rfl ?_
  try simp only [hm, ↓wA, ↓wC, wB, frzBE, frzBS, Nat.reduceEqDiff, Nat.reduceAdd, Nat.reduceSub, reduceIte, reduceCtorEq, Nat.reduceBEq, Nat.reduceLT, decide_true]
  refine exec_loop (fun p : Nat × Nat => ⟨[(0, .d (.int .i64 a)), (1, .d (.int .i64 b)), (6, .d (.int .i64 p.1)), (7, .d (.int .i64 p.2))], []⟩) (fun p => Nat.gcd p.1 p.2 = Nat.gcd a b) (fun p => p.2) (a, b) (weak_of [] rfl ⟨⟨rfl, rfl⟩, ⟨rfl, rfl⟩, ⟨rfl, rfl⟩, ⟨rfl, rfl⟩, trivial⟩) rfl ?_
  rintro ⟨p, q⟩ hgp
  simp only at hgp
  by_cases hq : q = 0
  · subst hq
    have hd : decide (((0 : Nat) : Int) = 0) = true := decide_eq_true rfl
    have hp : p = Nat.gcd a b := by rw [← hgp, Nat.gcd_zero_right]
    subst hp
    try simp only [hd, ↓wA, ↓wC, wB, frzBE, frzBS, Nat.reduceEqDiff, Nat.reduceAdd, Nat.reduceSub, reduceIte, reduceCtorEq, Nat.reduceBEq, Nat.reduceLT, decide_true]
    refine onC_i hg ?_
    try simp only [↓wA, ↓wC, wB, frzBE, frzBS, Nat.reduceEqDiff, Nat.reduceAdd, Nat.reduceSub, reduceIte, reduceCtorEq, Nat.reduceBEq, Nat.reduceLT, decide_true]
    refine onI_bare (tdiv_inR a _ ha) ?_
    try simp only [↓wA, ↓wC, wB, frzBE, frzBS, Nat.reduceEqDiff, Nat.reduceAdd, Nat.reduceSub, reduceIte, reduceCtorEq, Nat.reduceBEq, Nat.reduceLT, decide_true]
    refine onC_i hg ?_
    try simp only [↓wA, ↓wC, wB, frzBE, frzBS, Nat.reduceEqDiff, Nat.reduceAdd, Nat.reduceSub, reduceIte, reduceCtorEq, Nat.reduceBEq, Nat.reduceLT, decide_true]
    refine onI_bare (tdiv_inR b _ hb) ?_
    try simp only [↓wA, ↓wC, wB, frzBE, frzBS, Nat.reduceEqDiff, Nat.reduceAdd, Nat.reduceSub, reduceIte, reduceCtorEq, Nat.reduceBEq, Nat.reduceLT, decide_true]
    rfl
  · have hd : decide ((q : Int) = 0) = false := decide_eq_false (by omega)
    try simp only [hd, ↓wA, ↓wC, wB, frzBE, frzBS, Nat.reduceEqDiff, Nat.reduceAdd, Nat.reduceSub, reduceIte, reduceCtorEq, Nat.reduceBEq, Nat.reduceLT, decide_true]
    refine onC_i (by omega) ?_
    try simp only [tmod_cast, ↓wA, ↓wC, wB, frzBE, frzBS, Nat.reduceEqDiff, Nat.reduceAdd, Nat.reduceSub, reduceIte, reduceCtorEq, Nat.reduceBEq, Nat.reduceLT, decide_true]
    exact ⟨(q, p % q), weak_of [] rfl ⟨⟨rfl, rfl⟩, ⟨rfl, rfl⟩, ⟨rfl, rfl⟩, ⟨rfl, rfl⟩, trivial⟩, by rw [← hgp, Nat.gcd_comm p q, Nat.gcd_rec q p, Nat.gcd_comm], Nat.mod_lt _ (by omega)⟩
def share (xs : List Row) : List D := if sumG xs = 0 then [.int .i64 0, .int .i64 0, .bool false] else lowest (sumX xs).toNat (sumG xs).toNat ++ [.bool true]
def shareR (stock : Int) (xs : List Row) : List D := if good stock xs then share xs else [.int .i64 0, .int .i64 0, .bool false]
theorem good_sums {stock : Int} {xs : List Row} (h : good stock xs = true) : 0 ≤ sumX xs ∧ sumX xs ≤ 99990 ∧ 0 ≤ sumG xs ∧ sumG xs ≤ 299970 := by
  obtain ⟨h0, h1, h2, h3⟩ := good_parts h
  have := sums_bound xs (ok_all xs stock none 9999 h3 h0 h1).1
  omega
theorem good_sums_at {stock : Int} {xs : List Row} (h : good stock xs = true) (i : Nat) : 0 ≤ sumX (xs.drop i) ∧ 0 ≤ sumG (xs.drop i) := by
  obtain ⟨h0, h1, h2, h3⟩ := good_parts h
  have := sums_bound (xs.drop i) fun r hr => (ok_all xs stock none 9999 h3 h0 h1).1 r (List.mem_of_mem_drop hr)
  omega
theorem specShare_fn (stock : Int) (xs : List Row) (hs : InR .i64 stock) (hlen : xs.length ≤ 1048576) : Fn prog 31 [.int .i64 stock, .sl false 5 (rowsD xs)] (fun rs => rs = shareR stock xs) := by
  refine Fn_of' (fn := f31) (by exact func31) c31 r31 (n := 45) (by rfl) (rv := [.tmp 4, .tmp 5, .tmp 6]) (by rfl) (by simp) ?_
  unfold m31
  try simp only [↓wA, ↓wC, wB, frzBE, frzBS, Nat.reduceEqDiff, Nat.reduceAdd, Nat.reduceSub, reduceIte, reduceCtorEq, Nat.reduceBEq, Nat.reduceLT, decide_true]
  refine call_det (l26Good_fn stock xs hs hlen) rfl rfl ?_
  try simp only [↓wA, ↓wC, wB, frzBE, frzBS, Nat.reduceEqDiff, Nat.reduceAdd, Nat.reduceSub, reduceIte, reduceCtorEq, Nat.reduceBEq, Nat.reduceLT, decide_true]
  cases hg : good stock xs with
  | false =>
    try simp only [↓wA, ↓wC, wB, frzBE, frzBS, Nat.reduceEqDiff, Nat.reduceAdd, Nat.reduceSub, reduceIte, reduceCtorEq, Nat.reduceBEq, Nat.reduceLT, decide_true]
    simp [shareR, hg]
  | true =>
    obtain ⟨b0, b1, b2, b3⟩ := good_sums hg
    obtain ⟨_, _, hl10, _⟩ := good_parts hg
    try simp only [↓wA, ↓wC, wB, frzBE, frzBS, Nat.reduceEqDiff, Nat.reduceAdd, Nat.reduceSub, reduceIte, reduceCtorEq, Nat.reduceBEq, Nat.reduceLT, decide_true]
    refine exec_loop (fun p : Nat × Int × Int => ⟨[(1, .d (.sl false 5 (rowsD xs))), (7, .d (.int .i64 p.2.1)), (8, .d (.int .i64 p.2.2)), (9, .d (.int .i64 p.1))], []⟩)
      (fun p => p.1 ≤ xs.length ∧ 0 ≤ p.2.1 ∧ 0 ≤ p.2.2 ∧ p.2.1 + sumX (xs.drop p.1) = sumX xs ∧ p.2.2 + sumG (xs.drop p.1) = sumG xs) (fun p => xs.length - p.1) (0, 0, 0)
      (weak_of [] rfl ⟨⟨rfl, rfl⟩, ⟨rfl, rfl⟩, ⟨rfl, rfl⟩, ⟨rfl, rfl⟩, trivial⟩) ⟨Nat.zero_le _, by simp, by simp, by simp, by simp⟩ ?_
    rintro ⟨i, sx, sg⟩ ⟨hi, hx0, hg0, hx, hgg⟩
    simp only at hi hx0 hg0 hx hgg
    by_cases hlt : i < xs.length
    · obtain ⟨r, hr⟩ := get_lt hlt
      have hd : decide ((i : Int) < (xs.length : Int)) = true := decide_eq_true (by omega)
      have h0 : (0 : Int) ≤ (i : Int) := by omega
      have hok := good_ok hg hr
      have hb := ok_bounds hok
      have hgn : r.gone = r.k + r.x + r.g := rfl
      have hn := good_sums_at hg (i + 1)
      rw [drop_get hr] at hx hgg
      simp only [sumX, sumG] at hx hgg
      try simp only [dl_len, hd, dl_nth, Int.toNat_natCast, hr, Option.map_some, h0, onC_true, ↓rd_row, ↓fa_row3, ↓wA, ↓wC, wB, frzBE, frzBS, Nat.reduceEqDiff, Nat.reduceAdd, Nat.reduceSub, reduceIte, reduceCtorEq, Nat.reduceBEq, Nat.reduceLT, decide_true]
      refine onI_bare (by simp only [InR]; omega) ?_
      try simp only [dl_len, hd, dl_nth, Int.toNat_natCast, hr, Option.map_some, h0, onC_true, ↓rd_row, ↓wA, ↓wC, wB, frzBE, frzBS, Nat.reduceEqDiff, Nat.reduceAdd, Nat.reduceSub, reduceIte, reduceCtorEq, Nat.reduceBEq, Nat.reduceLT, decide_true]
      refine call_det (l26Gone_fn r hok) rfl rfl ?_
      try simp only [↓wA, ↓wC, wB, frzBE, frzBS, Nat.reduceEqDiff, Nat.reduceAdd, Nat.reduceSub, reduceIte, reduceCtorEq, Nat.reduceBEq, Nat.reduceLT, decide_true]
      refine onI_bare (by simp only [InR]; omega) ?_
      try simp only [↓wA, ↓wC, wB, frzBE, frzBS, Nat.reduceEqDiff, Nat.reduceAdd, Nat.reduceSub, reduceIte, reduceCtorEq, Nat.reduceBEq, Nat.reduceLT, decide_true]
      refine onI_bare (by simp only [InR]; omega) ?_
      exact ⟨(i + 1, sx + r.x, sg + r.gone), weak_of _ rfl ⟨⟨rfl, rfl⟩, ⟨rfl, rfl⟩, ⟨rfl, rfl⟩, ⟨rfl, rfl⟩, trivial⟩, ⟨by simp only; omega, by simp only; omega, by simp only; omega, by simp only; omega, by simp only; omega⟩, by simp only; omega⟩
    · have hd : decide ((i : Int) < (xs.length : Int)) = false := decide_eq_false (by omega)
      have e : i = xs.length := by omega
      rw [e, List.drop_length] at hx hgg
      simp only [sumX, sumG, Int.add_zero] at hx hgg
      try simp only [dl_len, hd, ↓wA, ↓wC, wB, frzBE, frzBS, Nat.reduceEqDiff, Nat.reduceAdd, Nat.reduceSub, reduceIte, reduceCtorEq, Nat.reduceBEq, Nat.reduceLT, decide_true]
      rw [hx, hgg]
      by_cases hz : sumG xs = 0
      · have hd2 : decide (sumG xs = 0) = true := decide_eq_true hz
        try simp only [hd2, ↓wA, ↓wC, wB, frzBE, frzBS, Nat.reduceEqDiff, Nat.reduceAdd, Nat.reduceSub, reduceIte, reduceCtorEq, Nat.reduceBEq, Nat.reduceLT, decide_true]
        simp [shareR, hg, share, hz]
      · have hd2 : decide (sumG xs = 0) = false := decide_eq_false hz
        have c1 : (((sumX xs).toNat : Nat) : Int) = sumX xs := Int.toNat_of_nonneg b0
        have c2 : (((sumG xs).toNat : Nat) : Int) = sumG xs := Int.toNat_of_nonneg b2
        have hc := l2Reduce_fn (sumX xs).toNat (sumG xs).toNat (by omega) (by omega) (by omega)
        rw [c1, c2] at hc
        try simp only [hd2, ↓wA, ↓wC, wB, frzBE, frzBS, Nat.reduceEqDiff, Nat.reduceAdd, Nat.reduceSub, reduceIte, reduceCtorEq, Nat.reduceBEq, Nat.reduceLT, decide_true]
        refine call_det hc rfl rfl ?_
        try simp only [lowest, ↓wA, ↓wC, wB, frzBE, frzBS, Nat.reduceEqDiff, Nat.reduceAdd, Nat.reduceSub, reduceIte, reduceCtorEq, Nat.reduceBEq, Nat.reduceLT, decide_true]
        simp [shareR, hg, share, hz, lowest]
theorem share_fn (stock : Int) (xs : List Row) (hlen : xs.length ≤ 1048576) : Fn prog 30 [.int .i64 stock, .sl false 5 (rowsD xs)] (fun rs => rs = shareR stock xs) := by
  refine Fn_of' (fn := f30) (by exact func30) c30 r30 (n := 42) (by rfl) (rv := [.tmp 4, .tmp 5, .tmp 6]) (by rfl) (by simp) ?_
  unfold m30
  try simp only [↓wA, ↓wC, wB, frzBE, frzBS, Nat.reduceEqDiff, Nat.reduceAdd, Nat.reduceSub, reduceIte, reduceCtorEq, Nat.reduceBEq, Nat.reduceLT, decide_true]
  refine call_det (areYearRows_fn stock xs hlen) rfl rfl ?_
  try simp only [↓wA, ↓wC, wB, frzBE, frzBS, Nat.reduceEqDiff, Nat.reduceAdd, Nat.reduceSub, reduceIte, reduceCtorEq, Nat.reduceBEq, Nat.reduceLT, decide_true]
  cases hg : good stock xs with
  | false =>
    try simp only [↓wA, ↓wC, wB, frzBE, frzBS, Nat.reduceEqDiff, Nat.reduceAdd, Nat.reduceSub, reduceIte, reduceCtorEq, Nat.reduceBEq, Nat.reduceLT, decide_true]
    simp [shareR, hg]
  | true =>
    obtain ⟨b0, b1, b2, b3⟩ := good_sums hg
    obtain ⟨_, _, hl10, _⟩ := good_parts hg
    try simp only [dl_len, ↓wA, ↓wC, wB, frzBE, frzBS, Nat.reduceEqDiff, Nat.reduceAdd, Nat.reduceSub, reduceIte, reduceCtorEq, Nat.reduceBEq, Nat.reduceLT, decide_true]
    refine exec_loop (fun p : Nat × Int × Int => ⟨[(7, .d (.int .i64 p.2.1)), (8, .d (.int .i64 p.2.2)), (17, .d (.sl false 5 (rowsD xs))), (18, .d (.int .i64 xs.length)), (19, .d (.int .i64 p.1))], []⟩)
      (fun p => p.1 ≤ xs.length ∧ 0 ≤ p.2.1 ∧ 0 ≤ p.2.2 ∧ p.2.1 + sumX (xs.drop p.1) = sumX xs ∧ p.2.2 + sumG (xs.drop p.1) = sumG xs) (fun p => xs.length - p.1) (0, 0, 0)
      (weak_of [] rfl ⟨⟨rfl, rfl⟩, ⟨rfl, rfl⟩, ⟨rfl, rfl⟩, ⟨rfl, rfl⟩, ⟨rfl, rfl⟩, trivial⟩) ⟨Nat.zero_le _, by simp, by simp, by simp, by simp⟩ ?_
    rintro ⟨i, sx, sg⟩ ⟨hi, hx0, hg0, hx, hgg⟩
    simp only at hi hx0 hg0 hx hgg
    by_cases hlt : i < xs.length
    · obtain ⟨r, hr⟩ := get_lt hlt
      have hd : decide ((i : Int) < (xs.length : Int)) = true := decide_eq_true (by omega)
      have h0 : (0 : Int) ≤ (i : Int) := by omega
      have hok := good_ok hg hr
      have hb := ok_bounds hok
      have hgn : r.gone = r.k + r.x + r.g := rfl
      have hn := good_sums_at hg (i + 1)
      rw [drop_get hr] at hx hgg
      simp only [sumX, sumG] at hx hgg
      try simp only [dl_len, hd, dl_nth, Int.toNat_natCast, hr, Option.map_some, h0, onC_true, ↓rd_row, Row.d, ↓wA, ↓wC, wB, frzBE, frzBS, Nat.reduceEqDiff, Nat.reduceAdd, Nat.reduceSub, reduceIte, reduceCtorEq, Nat.reduceBEq, Nat.reduceLT, decide_true]
      refine onI_bare (by simp only [InR]; omega) ?_
      try simp only [dl_len, hd, dl_nth, Int.toNat_natCast, hr, Option.map_some, h0, onC_true, ↓rd_row, ↓wA, ↓wC, wB, frzBE, frzBS, Nat.reduceEqDiff, Nat.reduceAdd, Nat.reduceSub, reduceIte, reduceCtorEq, Nat.reduceBEq, Nat.reduceLT, decide_true]
      refine call_det (gone_fn r hok) rfl rfl ?_
      try simp only [↓wA, ↓wC, wB, frzBE, frzBS, Nat.reduceEqDiff, Nat.reduceAdd, Nat.reduceSub, reduceIte, reduceCtorEq, Nat.reduceBEq, Nat.reduceLT, decide_true]
      refine onI_bare (by simp only [InR]; omega) ?_
      try simp only [↓wA, ↓wC, wB, frzBE, frzBS, Nat.reduceEqDiff, Nat.reduceAdd, Nat.reduceSub, reduceIte, reduceCtorEq, Nat.reduceBEq, Nat.reduceLT, decide_true]
      refine onI_bare (by simp only [InR]; omega) ?_
      exact ⟨(i + 1, sx + r.x, sg + r.gone), weak_of _ rfl ⟨⟨rfl, rfl⟩, ⟨rfl, rfl⟩, ⟨rfl, rfl⟩, ⟨rfl, rfl⟩, ⟨rfl, rfl⟩, trivial⟩, ⟨by simp only; omega, by simp only; omega, by simp only; omega, by simp only; omega, by simp only; omega⟩, by simp only; omega⟩
    · have hd : decide ((i : Int) < (xs.length : Int)) = false := decide_eq_false (by omega)
      have e : i = xs.length := by omega
      rw [e, List.drop_length] at hx hgg
      simp only [sumX, sumG, Int.add_zero] at hx hgg
      try simp only [dl_len, hd, ↓wA, ↓wC, wB, frzBE, frzBS, Nat.reduceEqDiff, Nat.reduceAdd, Nat.reduceSub, reduceIte, reduceCtorEq, Nat.reduceBEq, Nat.reduceLT, decide_true]
      rw [hx, hgg]
      by_cases hz : sumG xs = 0
      · have hd2 : decide (sumG xs = 0) = true := decide_eq_true hz
        try simp only [hd2, ↓wA, ↓wC, wB, frzBE, frzBS, Nat.reduceEqDiff, Nat.reduceAdd, Nat.reduceSub, reduceIte, reduceCtorEq, Nat.reduceBEq, Nat.reduceLT, decide_true]
        simp [shareR, hg, share, hz]
      · have hd2 : decide (sumG xs = 0) = false := decide_eq_false hz
        have c1 : (((sumX xs).toNat : Nat) : Int) = sumX xs := Int.toNat_of_nonneg b0
        have c2 : (((sumG xs).toNat : Nat) : Int) = sumG xs := Int.toNat_of_nonneg b2
        have hc := reduced_fn (sumX xs).toNat (sumG xs).toNat (by omega) (by omega) (by omega)
        rw [c1, c2] at hc
        try simp only [hd2, ↓wA, ↓wC, wB, frzBE, frzBS, Nat.reduceEqDiff, Nat.reduceAdd, Nat.reduceSub, reduceIte, reduceCtorEq, Nat.reduceBEq, Nat.reduceLT, decide_true]
        refine call_det hc rfl rfl ?_
        try simp only [lowest, ↓wA, ↓wC, wB, frzBE, frzBS, Nat.reduceEqDiff, Nat.reduceAdd, Nat.reduceSub, reduceIte, reduceCtorEq, Nat.reduceBEq, Nat.reduceLT, decide_true]
        simp [shareR, hg, share, hz, lowest]
end Go.Pe.Try

set_option maxRecDepth 100000
set_option maxHeartbeats 4000000
set_option linter.all false
namespace Go.Pe.Try
open Go.Proofs.Try
/-- numbers from one on. -/
def ups : Nat → Int → List Int
  | 0, _ => []
  | n + 1, k => k :: ups n (k + 1)
theorem ups_len : ∀ (n : Nat) (k : Int), (ups n k).length = n
  | 0, _ => rfl
  | n + 1, k => by simp [ups, ups_len n]
theorem ups_snoc : ∀ (n : Nat) (k : Int), ups (n + 1) k = ups n k ++ [k + n]
  | 0, k => by simp [ups]
  | n + 1, k => by
    have h := ups_snoc n (k + 1)
    rw [ups, h, ups, List.cons_append]
    congr 3; omega
theorem implRestsAfter_fn (stock : Int) (xs : List Row) (hlen : xs.length ≤ 1048576) : Fn prog 20 [.int .i64 stock, .sl false 5 (rowsD xs)] (fun rs => rs = restsR stock xs) := by
  refine Fn_of' (fn := f20) (by exact func20) c20 r20 (n := 11) (by rfl) (rv := [.tmp 4, .tmp 5]) (by rfl) (by simp) ?_
  unfold m20
  try simp only [↓wA, ↓wC, wB, frzBE, frzBS, Nat.reduceEqDiff, Nat.reduceAdd, Nat.reduceSub, reduceIte, reduceCtorEq, Nat.reduceBEq, Nat.reduceLT, decide_true]
  refine call_det (restsAfter_fn stock xs hlen) rfl rfl ?_
  cases hg : good stock xs with
  | false =>
    try simp only [restsR, hg, ints_noOwn, ↓wA, ↓wC, wB, frzBE, frzBS, Nat.reduceEqDiff, Nat.reduceAdd, Nat.reduceSub, reduceIte, reduceCtorEq, Nat.reduceBEq, Nat.reduceLT, decide_true]
  | true =>
    try simp only [restsR, hg, ints_noOwn, ↓wA, ↓wC, wB, frzBE, frzBS, Nat.reduceEqDiff, Nat.reduceAdd, Nat.reduceSub, reduceIte, reduceCtorEq, Nat.reduceBEq, Nat.reduceLT, decide_true]
end Go.Pe.Try

set_option maxRecDepth 100000
set_option maxHeartbeats 4000000
set_option linter.all false
namespace Go.Pe.Try
open Go.Proofs.Try
def gaps : List Row → List Int
  | [] => []
  | [_] => []
  | r :: q :: rs => ups (q.y - (r.y + 1)).toNat (r.y + 1) ++ gaps (q :: rs)
def missR (stock : Int) (xs : List Row) : List D := if good stock xs then [.sl true 1 (dl iD (gaps xs)), .bool true] else [.sl true 1 (dl iD []), .bool false]
theorem specMissing_fn (stock : Int) (xs : List Row) (hs : InR .i64 stock) (hlen : xs.length ≤ 1048576) : Fn prog 26 [.int .i64 stock, .sl false 5 (rowsD xs)] (fun rs => rs = missR stock xs) := by
  refine Fn_of' (fn := f26) (by exact func26) c26 r26 (n := 42) (by rfl) (rv := [.tmp 4, .tmp 5]) (by rfl) (by simp) ?_
  unfold m26
  try simp only [↓wA, ↓wC, wB, frzBE, frzBS, Nat.reduceEqDiff, Nat.reduceAdd, Nat.reduceSub, reduceIte, reduceCtorEq, Nat.reduceBEq, Nat.reduceLT, decide_true]
  refine call_det (l26Good_fn stock xs hs hlen) rfl rfl ?_
  try simp only [↓wA, ↓wC, wB, frzBE, frzBS, Nat.reduceEqDiff, Nat.reduceAdd, Nat.reduceSub, reduceIte, reduceCtorEq, Nat.reduceBEq, Nat.reduceLT, decide_true]
  cases hg : good stock xs with
  | false =>
    try simp only [↓wA, ↓wC, wB, frzBE, frzBS, Nat.reduceEqDiff, Nat.reduceAdd, Nat.reduceSub, reduceIte, reduceCtorEq, Nat.reduceBEq, Nat.reduceLT, decide_true]
    simp [missR, hg, dl, ofL]
  | true =>
    obtain ⟨_, _, hl10, _⟩ := good_parts hg
    try simp only [↓wA, ↓wC, wB, frzBE, frzBS, Nat.reduceEqDiff, Nat.reduceAdd, Nat.reduceSub, reduceIte, reduceCtorEq, Nat.reduceBEq, Nat.reduceLT, decide_true]
    refine exec_loop (fun p : Nat × List Int => ⟨[(1, .d (.sl false 5 (rowsD xs))), (6, .own 0), (7, .d (.int .i64 p.1))], [.val (.sl true 1 (dl iD p.2))]⟩)
      (fun p => 1 ≤ p.1 ∧ p.1 ≤ xs.length + 1 ∧ p.2.length ≤ 301 * p.1 ∧ p.2 ++ gaps (xs.drop (p.1 - 1)) = gaps xs) (fun p => xs.length + 1 - p.1) (1, [])
      (weak_of [] rfl ⟨⟨rfl, rfl⟩, ⟨rfl, rfl⟩, ⟨rfl, rfl⟩, trivial⟩) ⟨Nat.le_refl _, by simp only; omega, by simp, by simp⟩ ?_
    rintro ⟨i, out⟩ ⟨hi1, hi, hol, hgap⟩
    simp only at hi1 hi hol hgap
    by_cases hlt : i < xs.length
    · obtain ⟨r, hr⟩ := get_lt hlt
      obtain ⟨q, hq⟩ := get_lt (show i - 1 < xs.length by omega)
      have hd : decide ((i : Int) < (xs.length : Int)) = true := decide_eq_true (by omega)
      have h0 : (0 : Int) ≤ (i : Int) := by omega
      have h1 : (0 : Int) ≤ (i : Int) - 1 := by omega
      have hq' : xs[((i : Int) - 1).toNat]? = some q := by rw [show ((i : Int) - 1).toNat = i - 1 by omega]; exact hq
      have hbq := ok_bounds (good_ok hg hq)
      have hbr := ok_bounds (good_ok hg hr)
      have hstep : gaps (xs.drop (i - 1)) = ups (r.y - (q.y + 1)).toNat (q.y + 1) ++ gaps (xs.drop i) := by
        rw [drop_get hq, show i - 1 + 1 = i by omega, drop_get hr]; rfl
      have hN : (r.y - (q.y + 1)).toNat ≤ 300 := by omega
      try simp only [dl_len, hd, ↓wA, ↓wC, wB, frzBE, frzBS, Nat.reduceEqDiff, Nat.reduceAdd, Nat.reduceSub, reduceIte, reduceCtorEq, Nat.reduceBEq, Nat.reduceLT, decide_true]
      refine onI_bare (by simp only [InR]; omega) ?_
      try simp only [dl_nth, hq', h1, Option.map_some, onC_true, ↓fa_row0, ↓wA, ↓wC, wB, frzBE, frzBS, Nat.reduceEqDiff, Nat.reduceAdd, Nat.reduceSub, reduceIte, reduceCtorEq, Nat.reduceBEq, Nat.reduceLT, decide_true]
      refine onI_bare (by simp only [InR]; omega) ?_
      try simp only [↓wA, ↓wC, wB, frzBE, frzBS, Nat.reduceEqDiff, Nat.reduceAdd, Nat.reduceSub, reduceIte, reduceCtorEq, Nat.reduceBEq, Nat.reduceLT, decide_true]
      refine exec_loop (fun j : Nat => ⟨[(1, .d (.sl false 5 (rowsD xs))), (6, .own 0), (7, .d (.int .i64 i)), (8, .d (.int .i64 (q.y + 1 + j)))], [.val (.sl true 1 (dl iD (out ++ ups j (q.y + 1))))]⟩)
        (fun j => j ≤ (r.y - (q.y + 1)).toNat) (fun j => (r.y - (q.y + 1)).toNat - j) 0
        (weak_of [] (by simp [ups]) ⟨⟨rfl, rfl⟩, ⟨rfl, rfl⟩, ⟨rfl, rfl⟩, ⟨by simp [look], rfl⟩, trivial⟩) (Nat.zero_le _) ?_
      intro j hj
      by_cases hjt : j < (r.y - (q.y + 1)).toNat
      · have hd2 : decide (q.y + 1 + (j : Int) < r.y) = true := decide_eq_true (by omega)
        have hll : (out ++ ups j (q.y + 1)).length = out.length + j := by rw [List.length_append, ups_len]
        have happ : (dl iD (out ++ ups j (q.y + 1))).app (D.cons (.int .i64 (q.y + 1 + j)) .nil) = dl iD (out ++ ups (j + 1) (q.y + 1)) := by
          rw [app_int, ups_snoc, List.append_assoc]
        try simp only [dl_nth, Int.toNat_natCast, hr, h0, Option.map_some, onC_true, ↓fa_row0, hd2, ↓wA, ↓wC, wB, frzBE, frzBS, Nat.reduceEqDiff, Nat.reduceAdd, Nat.reduceSub, reduceIte, reduceCtorEq, Nat.reduceBEq, Nat.reduceLT, decide_true]
        try simp only [dl_len, hll, happ, ↓wA, ↓wC, wB, frzBE, frzBS, Nat.reduceEqDiff, Nat.reduceAdd, Nat.reduceSub, reduceIte, reduceCtorEq, Nat.reduceBEq, Nat.reduceLT, decide_true]
        refine onC_i (by simp; done) ?_
        try simp only [dl_len, hll, happ, ↓wA, ↓wC, wB, frzBE, frzBS, Nat.reduceEqDiff, Nat.reduceAdd, Nat.reduceSub, reduceIte, reduceCtorEq, Nat.reduceBEq, Nat.reduceLT, decide_true]
        refine onC_i (by omega) ?_
        try simp only [happ, ↓wA, ↓wC, wB, frzBE, frzBS, Nat.reduceEqDiff, Nat.reduceAdd, Nat.reduceSub, reduceIte, reduceCtorEq, Nat.reduceBEq, Nat.reduceLT, decide_true]
        refine onI_bare (by simp only [InR]; omega) ?_
        refine ⟨j + 1, weak_of _ rfl ⟨⟨rfl, rfl⟩, ⟨rfl, rfl⟩, ⟨rfl, rfl⟩, ⟨?_, rfl⟩, trivial⟩, by omega, by omega⟩
        exact congrArg (fun n => SV.d (.int .i64 n)) (by omega)
      · have hd2 : decide (q.y + 1 + (j : Int) < r.y) = false := decide_eq_false (by omega)
        have ej : j = (r.y - (q.y + 1)).toNat := by omega
        try simp only [dl_nth, Int.toNat_natCast, hr, h0, Option.map_some, onC_true, ↓fa_row0, hd2, ↓wA, ↓wC, wB, frzBE, frzBS, Nat.reduceEqDiff, Nat.reduceAdd, Nat.reduceSub, reduceIte, reduceCtorEq, Nat.reduceBEq, Nat.reduceLT, decide_true]
        refine onI_bare (by simp only [InR]; omega) ?_
        refine ⟨(i + 1, out ++ ups j (q.y + 1)), weak_of _ rfl ⟨⟨rfl, rfl⟩, ⟨rfl, rfl⟩, ⟨rfl, rfl⟩, trivial⟩, ⟨by simp only; omega, by simp only; omega, ?_, ?_⟩, by simp only; omega⟩
        · simp only [List.length_append, ups_len]; omega
        · simp only [Nat.add_sub_cancel]
          rw [← hgap, hstep, ej, List.append_assoc]
    · have hd : decide ((i : Int) < (xs.length : Int)) = false := decide_eq_false (by omega)
      have hz : gaps (xs.drop (i - 1)) = [] := by
        have : (xs.drop (i - 1)).length ≤ 1 := by simp; omega
        match xs.drop (i - 1), this with
        | [], _ => rfl
        | [_], _ => rfl
      rw [hz, List.append_nil] at hgap
      try simp only [dl_len, hd, ↓wA, ↓wC, wB, frzBE, frzBS, Nat.reduceEqDiff, Nat.reduceAdd, Nat.reduceSub, reduceIte, reduceCtorEq, Nat.reduceBEq, Nat.reduceLT, decide_true]
      simp [missR, hg, hgap]
theorem missing_fn (stock : Int) (xs : List Row) (hlen : xs.length ≤ 1048576) : Fn prog 25 [.int .i64 stock, .sl false 5 (rowsD xs)] (fun rs => rs = missR stock xs) := by
  refine Fn_of' (fn := f25) (by exact func25) c25 r25 (n := 40) (by rfl) (rv := [.tmp 4, .tmp 5]) (by rfl) (by simp) ?_
  unfold m25
  try simp only [↓wA, ↓wC, wB, frzBE, frzBS, Nat.reduceEqDiff, Nat.reduceAdd, Nat.reduceSub, reduceIte, reduceCtorEq, Nat.reduceBEq, Nat.reduceLT, decide_true]
  refine call_det (areYearRows_fn stock xs hlen) rfl rfl ?_
  try simp only [↓wA, ↓wC, wB, frzBE, frzBS, Nat.reduceEqDiff, Nat.reduceAdd, Nat.reduceSub, reduceIte, reduceCtorEq, Nat.reduceBEq, Nat.reduceLT, decide_true]
  cases hg : good stock xs with
  | false =>
    try simp only [↓wA, ↓wC, wB, frzBE, frzBS, Nat.reduceEqDiff, Nat.reduceAdd, Nat.reduceSub, reduceIte, reduceCtorEq, Nat.reduceBEq, Nat.reduceLT, decide_true]
    refine take_nil 1 ?_
    try simp only [↓wA, ↓wC, wB, frzBE, frzBS, Nat.reduceEqDiff, Nat.reduceAdd, Nat.reduceSub, reduceIte, reduceCtorEq, Nat.reduceBEq, Nat.reduceLT, decide_true]
    simp [missR, hg, dl, ofL]
  | true =>
    obtain ⟨_, _, hl10, _⟩ := good_parts hg
    try simp only [↓wA, ↓wC, wB, frzBE, frzBS, Nat.reduceEqDiff, Nat.reduceAdd, Nat.reduceSub, reduceIte, reduceCtorEq, Nat.reduceBEq, Nat.reduceLT, decide_true]
    refine exec_loopN (ts := [(6, 1)]) (fun p : Nat × List Int => ⟨[(1, .d (.sl false 5 (rowsD xs))), (6, .own 0), (7, .d (.int .i64 p.1))], [.val (.sl true 1 (dl iD p.2))]⟩)
      (fun p => 1 ≤ p.1 ∧ p.1 ≤ xs.length + 1 ∧ p.2.length ≤ 301 * p.1 ∧ p.2 ++ gaps (xs.drop (p.1 - 1)) = gaps xs) (fun p => xs.length + 1 - p.1) (1, [])
      ⟨rfl, trivial⟩ (weak_of [] rfl ⟨⟨rfl, rfl⟩, ⟨rfl, rfl⟩, ⟨rfl, rfl⟩, trivial⟩) ⟨Nat.le_refl _, by simp only; omega, by simp, by simp⟩ ?_
    rintro ⟨i, out⟩ ⟨hi1, hi, hol, hgap⟩
    simp only at hi1 hi hol hgap
    by_cases hlt : i < xs.length
    · obtain ⟨r, hr⟩ := get_lt hlt
      obtain ⟨q, hq⟩ := get_lt (show i - 1 < xs.length by omega)
      have hd : decide ((i : Int) < (xs.length : Int)) = true := decide_eq_true (by omega)
      have h0 : (0 : Int) ≤ (i : Int) := by omega
      have h1 : (0 : Int) ≤ (i : Int) - 1 := by omega
      have hq' : xs[((i : Int) - 1).toNat]? = some q := by rw [show ((i : Int) - 1).toNat = i - 1 by omega]; exact hq
      have hbq := ok_bounds (good_ok hg hq)
      have hbr := ok_bounds (good_ok hg hr)
      have hstep : gaps (xs.drop (i - 1)) = ups (r.y - (q.y + 1)).toNat (q.y + 1) ++ gaps (xs.drop i) := by
        rw [drop_get hq, show i - 1 + 1 = i by omega, drop_get hr]; rfl
      have hN : (r.y - (q.y + 1)).toNat ≤ 300 := by omega
      try simp only [dl_len, hd, ↓wA, ↓wC, wB, frzBE, frzBS, Nat.reduceEqDiff, Nat.reduceAdd, Nat.reduceSub, reduceIte, reduceCtorEq, Nat.reduceBEq, Nat.reduceLT, decide_true]
      refine onI_bare (by simp only [InR]; omega) ?_
      try simp only [dl_nth, hq', h1, Option.map_some, onC_true, ↓fa_row0, ↓wA, ↓wC, wB, frzBE, frzBS, Nat.reduceEqDiff, Nat.reduceAdd, Nat.reduceSub, reduceIte, reduceCtorEq, Nat.reduceBEq, Nat.reduceLT, decide_true]
      refine onI_bare (by simp only [InR]; omega) ?_
      try simp only [↓wA, ↓wC, wB, frzBE, frzBS, Nat.reduceEqDiff, Nat.reduceAdd, Nat.reduceSub, reduceIte, reduceCtorEq, Nat.reduceBEq, Nat.reduceLT, decide_true]
      refine exec_loop (fun j : Nat => ⟨[(1, .d (.sl false 5 (rowsD xs))), (6, .own 0), (7, .d (.int .i64 i)), (8, .d (.int .i64 (q.y + 1 + j)))], [.val (.sl true 1 (dl iD (out ++ ups j (q.y + 1))))]⟩)
        (fun j => j ≤ (r.y - (q.y + 1)).toNat) (fun j => (r.y - (q.y + 1)).toNat - j) 0
        (weak_of [] (by simp [ups]) ⟨⟨rfl, rfl⟩, ⟨rfl, rfl⟩, ⟨rfl, rfl⟩, ⟨by simp [look], rfl⟩, trivial⟩) (Nat.zero_le _) ?_
      intro j hj
      by_cases hjt : j < (r.y - (q.y + 1)).toNat
      · have hd2 : decide (q.y + 1 + (j : Int) < r.y) = true := decide_eq_true (by omega)
        have hll : (out ++ ups j (q.y + 1)).length = out.length + j := by rw [List.length_append, ups_len]
        have happ : (dl iD (out ++ ups j (q.y + 1))).app (D.cons (.int .i64 (q.y + 1 + j)) .nil) = dl iD (out ++ ups (j + 1) (q.y + 1)) := by
          rw [app_int, ups_snoc, List.append_assoc]
        try simp only [dl_nth, Int.toNat_natCast, hr, h0, Option.map_some, onC_true, ↓fa_row0, hd2, ↓wA, ↓wC, wB, frzBE, frzBS, Nat.reduceEqDiff, Nat.reduceAdd, Nat.reduceSub, reduceIte, reduceCtorEq, Nat.reduceBEq, Nat.reduceLT, decide_true]
        try simp only [dl_len, hll, happ, ↓wA, ↓wC, wB, frzBE, frzBS, Nat.reduceEqDiff, Nat.reduceAdd, Nat.reduceSub, reduceIte, reduceCtorEq, Nat.reduceBEq, Nat.reduceLT, decide_true]
        refine onC_i (by simp; done) ?_
        try simp only [dl_len, hll, happ, ↓wA, ↓wC, wB, frzBE, frzBS, Nat.reduceEqDiff, Nat.reduceAdd, Nat.reduceSub, reduceIte, reduceCtorEq, Nat.reduceBEq, Nat.reduceLT, decide_true]
        refine onC_i (by omega) ?_
        try simp only [happ, ↓wA, ↓wC, wB, frzBE, frzBS, Nat.reduceEqDiff, Nat.reduceAdd, Nat.reduceSub, reduceIte, reduceCtorEq, Nat.reduceBEq, Nat.reduceLT, decide_true]
        refine onI_bare (by simp only [InR]; omega) ?_
        refine ⟨j + 1, weak_of _ rfl ⟨⟨rfl, rfl⟩, ⟨rfl, rfl⟩, ⟨rfl, rfl⟩, ⟨?_, rfl⟩, trivial⟩, by omega, by omega⟩
        exact congrArg (fun n => SV.d (.int .i64 n)) (by omega)
      · have hd2 : decide (q.y + 1 + (j : Int) < r.y) = false := decide_eq_false (by omega)
        have ej : j = (r.y - (q.y + 1)).toNat := by omega
        try simp only [dl_nth, Int.toNat_natCast, hr, h0, Option.map_some, onC_true, ↓fa_row0, hd2, ↓wA, ↓wC, wB, frzBE, frzBS, Nat.reduceEqDiff, Nat.reduceAdd, Nat.reduceSub, reduceIte, reduceCtorEq, Nat.reduceBEq, Nat.reduceLT, decide_true]
        refine onI_bare (by simp only [InR]; omega) ?_
        refine ⟨(i + 1, out ++ ups j (q.y + 1)), weak_of _ rfl ⟨⟨rfl, rfl⟩, ⟨rfl, rfl⟩, ⟨rfl, rfl⟩, trivial⟩, ⟨by simp only; omega, by simp only; omega, ?_, ?_⟩, by simp only; omega⟩
        · simp only [List.length_append, ups_len]; omega
        · simp only [Nat.add_sub_cancel]
          rw [← hgap, hstep, ej, List.append_assoc]
    · have hd : decide ((i : Int) < (xs.length : Int)) = false := decide_eq_false (by omega)
      have hz : gaps (xs.drop (i - 1)) = [] := by
        have : (xs.drop (i - 1)).length ≤ 1 := by simp; omega
        match xs.drop (i - 1), this with
        | [], _ => rfl
        | [_], _ => rfl
      rw [hz, List.append_nil] at hgap
      try simp only [dl_len, hd, ↓wA, ↓wC, wB, frzBE, frzBS, Nat.reduceEqDiff, Nat.reduceAdd, Nat.reduceSub, reduceIte, reduceCtorEq, Nat.reduceBEq, Nat.reduceLT, decide_true]
      simp [missR, hg, hgap]
end Go.Pe.Try

set_option maxRecDepth 100000
set_option maxHeartbeats 4000000
set_option linter.all false
namespace Go.Pe.Try
open Go.Proofs.Try
theorem bytes_noOwn : ∀ bs : List UInt8, (bytesD bs).noOwn = true
  | [] => rfl
  | b :: bs => by simp [bytesD, D.noOwn, bytes_noOwn bs]
theorem bytes_nth : ∀ (bs : List UInt8) (i : Nat), (bytesD bs).nth i = (bs[i]?).map fun b => D.int .u8 (b.toNat : Int)
  | [], i => by cases i <;> rfl
  | b :: bs, 0 => rfl
  | b :: bs, i + 1 => by simp [bytesD, D.nth, bytes_nth bs i]
theorem and255 (x : Int) : 0 ≤ bits .and .u64 x 255 ∧ bits .and .u64 x 255 ≤ 255 := by
  unfold bits
  have h : (BitVec.ofInt (IntKind.bits .u64) x &&& BitVec.ofInt (IntKind.bits .u64) 255).toNat ≤ 255 := by
    rw [BitVec.toNat_and]; exact Nat.le_trans Nat.and_le_right (by decide)
  simp only []
  generalize (BitVec.ofInt (IntKind.bits .u64) x &&& BitVec.ofInt (IntKind.bits .u64) 255).toNat = m at h
  have : IntKind.wrap .u64 (m : Int) = m := by
    simp [IntKind.wrap, IntKind.bits, IntKind.signed]; omega
  rw [this]; omega
def curD (code : List UInt8) (k : Nat) (seed : Int) : D := .st (.cons (.sl false 1 (bytesD code)) (.cons (.int .i64 k) (.cons (.int .u64 seed) .nil)))
theorem cur_next (code : List UInt8) (k : Nat) (seed : Int) (hc : code.length ≤ 1048576) (hk : k ≤ 1000000000000) : FnM prog 128 true (curD code k seed) []
    (fun x' rs => ∃ (n : Int) (seed' : Int), x' = curD code (k + 1) seed' ∧ rs = [.int .i64 n] ∧ 0 ≤ n ∧ n < 256) := by
  have h0 : (0 : Int) ≤ (k : Int) := by omega
  refine FnM_of' (fn := f128) (by exact func128) c128 r128 (n := 62) (by rfl) (rv := [.tmp 2]) (by rfl) (by decide) (by simp) ?_
  unfold m128
  simp only [curD]
  by_cases hlt : k < code.length
  · obtain ⟨b, hb⟩ := get_lt hlt
    have hbl : (b.toNat : Int) < 256 := by have := b.toNat_lt; omega
    have hd : decide ((k : Int) < (code.length : Int)) = true := decide_eq_true (by omega)
    have hd2 : decide ((k : Int) + 1 ≤ (code.length : Int)) = true := decide_eq_true (by omega)
    repeat' (first
        | (simp only [bytesD_len, bytes_noOwn, bytes_nth, hd, hd2, h0, hb, Int.toNat_natCast, onC_true, ↓wA, ↓wC, wB, frzBE, frzBS, Nat.reduceEqDiff, Nat.reduceAdd, Nat.reduceSub, reduceIte, reduceCtorEq, Nat.reduceBEq, Nat.reduceLT, decide_true])
        | (refine onI_bare (by simp only [InR]; omega) ?_)
        | (refine onI_wrap ?_)
        | (refine execG_split (fun h => ?_) (fun h => ?_) <;> simp only [h])
        | (refine execC_split (fun h => ?_) (fun h => ?_) <;> (try simp only [h]))
        | (refine onPick_split (fun h => ?_) (fun h => ?_) <;> (try simp only [h])))
    exact ⟨_, _, rfl, rfl, by omega, hbl⟩
  · have hd : decide ((k : Int) < (code.length : Int)) = false := decide_eq_false (by omega)
    have hd2 : decide ((k : Int) + 1 ≤ (code.length : Int)) = false := decide_eq_false (by omega)
    repeat' (first
        | (simp only [bytesD_len, bytes_noOwn, hd, hd2, h0, onC_true, ↓wA, ↓wC, wB, frzBE, frzBS, Nat.reduceEqDiff, Nat.reduceAdd, Nat.reduceSub, reduceIte, reduceCtorEq, Nat.reduceBEq, Nat.reduceLT, decide_true])
        | (with_reducible refine onI_bare ?_ ?_; focus (simp only [InR]; omega))
        | (with_reducible refine onC_i ?_ ?_; focus omega)
        | (with_reducible refine onI_wrap (k := .u64) ?_)
        | (refine execG_split (fun h => ?_) (fun h => ?_) <;> simp only [h])
        | (refine execC_split (fun h => ?_) (fun h => ?_) <;> (try simp only [h]))
        | (refine onPick_split (fun h => ?_) (fun h => ?_) <;> (try simp only [h])))
    generalize hX : (Int.fdiv _ _ : Int) = X
    have h255 := and255 X
    refine onI_bare (by simp only [InR]; omega) ?_
    simp only [↓wA, ↓wC, wB, frzBE, frzBS, Nat.reduceEqDiff, Nat.reduceAdd, Nat.reduceSub, reduceIte, reduceCtorEq, Nat.reduceBEq, Nat.reduceLT, decide_true]
    exact ⟨_, _, rfl, rfl, h255.1, by omega⟩
end Go.Pe.Try

set_option maxRecDepth 100000
set_option maxHeartbeats 4000000
set_option linter.all false
namespace Go.Pe.Try
open Go.Proofs.Try
theorem pick_fn (code : List UInt8) (k : Nat) (seed n : Int) (hc : code.length ≤ 1048576) (hk : k ≤ 999999999990) : FnM prog 86 true (curD code k seed) [.int .i64 n]
    (fun x' rs => ∃ (m : Int) (k' : Nat) (seed' : Int), x' = curD code k' seed' ∧ rs = [.int .i64 m] ∧ k ≤ k' ∧ k' ≤ k + 2 ∧ 0 ≤ m ∧ (m < n ∨ m = 0)) := by
  cases h1 : decide (n ≤ 1) with
  | true =>
    refine FnM_of' (fn := f86) (by exact func86) c86 r86 (n := 20) (by rfl) (rv := [.tmp 4]) (by rfl) (by decide) (by simp) ?_
    unfold m86
    repeat' (first
        | (simp only [h1, ↓wA, ↓wC, wB, frzBE, frzBS, Nat.reduceEqDiff, Nat.reduceAdd, Nat.reduceSub, reduceIte, reduceCtorEq, Nat.reduceBEq, Nat.reduceLT, decide_true])
        | (refine execG_split (fun h => ?_) (fun h => ?_) <;> simp only [h])
        | (refine execC_split (fun h => ?_) (fun h => ?_) <;> (try simp only [h]))
        | (refine onPick_split (fun h => ?_) (fun h => ?_) <;> (try simp only [h])))
    exact ⟨0, k, seed, rfl, rfl, by omega, by omega, by omega, .inr rfl⟩
  | false =>
    have h1' := of_decide_eq_false h1
    have hn0 : n ≠ 0 := by omega
    cases h2 : decide (200 < n) with
    | false =>
      refine FnM_of' (fn := f86) (by exact func86) c86 r86 (n := 20) (by rfl) (rv := [.tmp 4]) (by rfl) (by decide) (by simp) ?_
      unfold m86
      repeat' (first
          | (simp only [h1, h2, ↓wA, ↓wC, wB, frzBE, frzBS, Nat.reduceEqDiff, Nat.reduceAdd, Nat.reduceSub, reduceIte, reduceCtorEq, Nat.reduceBEq, Nat.reduceLT, decide_true])
          | (refine execG_split (fun h => ?_) (fun h => ?_) <;> simp only [h])
          | (refine execC_split (fun h => ?_) (fun h => ?_) <;> (try simp only [h]))
          | (refine onPick_split (fun h => ?_) (fun h => ?_) <;> (try simp only [h])))
      refine callM_rel (cur_next code k seed hc (by omega)) rfl rfl rfl ?_
      rintro _ _ ⟨a, s1, rfl, rfl, ha0, ha1⟩
      have t0 : 0 ≤ a.tmod n := Int.tmod_nonneg _ ha0
      have t1 : a.tmod n < n := Int.tmod_lt_of_pos _ (by omega)
      repeat' (first
          | (simp only [h1, h2, ↓wA, ↓wC, wB, frzBE, frzBS, Nat.reduceEqDiff, Nat.reduceAdd, Nat.reduceSub, reduceIte, reduceCtorEq, Nat.reduceBEq, Nat.reduceLT, decide_true])
          | (with_reducible refine onC_i hn0 ?_)
          | (with_reducible refine onI_bare ?_ ?_; focus (simp only [InR]; omega))
          | (refine execG_split (fun h => ?_) (fun h => ?_) <;> simp only [h])
          | (refine execC_split (fun h => ?_) (fun h => ?_) <;> (try simp only [h]))
          | (refine onPick_split (fun h => ?_) (fun h => ?_) <;> (try simp only [h])))
      exact ⟨_, k + 1, s1, rfl, rfl, by omega, by omega, t0, .inl t1⟩
    | true =>
      refine FnM_of' (fn := f86) (by exact func86) c86 r86 (n := 20) (by rfl) (rv := [.tmp 4]) (by rfl) (by decide) (by simp) ?_
      unfold m86
      repeat' (first
          | (simp only [h1, h2, ↓wA, ↓wC, wB, frzBE, frzBS, Nat.reduceEqDiff, Nat.reduceAdd, Nat.reduceSub, reduceIte, reduceCtorEq, Nat.reduceBEq, Nat.reduceLT, decide_true])
          | (refine execG_split (fun h => ?_) (fun h => ?_) <;> simp only [h])
          | (refine execC_split (fun h => ?_) (fun h => ?_) <;> (try simp only [h]))
          | (refine onPick_split (fun h => ?_) (fun h => ?_) <;> (try simp only [h])))
      refine callM_rel (cur_next code k seed hc (by omega)) rfl rfl rfl ?_
      rintro _ _ ⟨a, s1, rfl, rfl, ha0, ha1⟩
      repeat' (first
          | (simp only [h1, h2, ↓wA, ↓wC, wB, frzBE, frzBS, Nat.reduceEqDiff, Nat.reduceAdd, Nat.reduceSub, reduceIte, reduceCtorEq, Nat.reduceBEq, Nat.reduceLT, decide_true])
          | (with_reducible refine onI_bare ?_ ?_; focus (simp only [InR]; omega))
          | (refine execG_split (fun h => ?_) (fun h => ?_) <;> simp only [h])
          | (refine execC_split (fun h => ?_) (fun h => ?_) <;> (try simp only [h]))
          | (refine onPick_split (fun h => ?_) (fun h => ?_) <;> (try simp only [h])))
      refine callM_rel (cur_next code (k + 1) s1 hc (by omega)) rfl rfl rfl ?_
      rintro _ _ ⟨b, s2, rfl, rfl, hb0, hb1⟩
      have t0 : 0 ≤ (a * 256 + b).tmod n := Int.tmod_nonneg _ (by omega)
      have t1 : (a * 256 + b).tmod n < n := Int.tmod_lt_of_pos _ (by omega)
      repeat' (first
          | (simp only [h1, h2, ↓wA, ↓wC, wB, frzBE, frzBS, Nat.reduceEqDiff, Nat.reduceAdd, Nat.reduceSub, reduceIte, reduceCtorEq, Nat.reduceBEq, Nat.reduceLT, decide_true])
          | (with_reducible refine onC_i hn0 ?_)
          | (with_reducible refine onI_bare ?_ ?_; focus (simp only [InR]; omega))
          | (refine execG_split (fun h => ?_) (fun h => ?_) <;> simp only [h])
          | (refine execC_split (fun h => ?_) (fun h => ?_) <;> (try simp only [h]))
          | (refine onPick_split (fun h => ?_) (fun h => ?_) <;> (try simp only [h])))
      exact ⟨_, k + 1 + 1, s2, rfl, rfl, by omega, by omega, t0, .inl t1⟩
end Go.Pe.Try

set_option maxRecDepth 100000
set_option maxHeartbeats 4000000
set_option linter.all false
namespace Go.Pe.Try
open Go.Proofs.Try
theorem one_fn (code : List UInt8) (k : Nat) (seed n : Int) (hc : code.length ≤ 1048576) (hk : k ≤ 999999999990) : FnM prog 102 true (curD code k seed) [.int .i64 n]
    (fun x' rs => ∃ (b : Bool) (k' : Nat) (seed' : Int), x' = curD code k' seed' ∧ rs = [.bool b] ∧ k ≤ k' ∧ k' ≤ k + 2) := by
  refine FnM_of' (fn := f102) (by exact func102) c102 r102 (n := 9) (by rfl) (rv := [.tmp 4]) (by rfl) (by decide) (by simp) ?_
  unfold m102
  try simp only [↓wA, ↓wC, wB, frzBE, frzBS, Nat.reduceEqDiff, Nat.reduceAdd, Nat.reduceSub, reduceIte, reduceCtorEq, Nat.reduceBEq, Nat.reduceLT, decide_true]
  refine callM_rel (pick_fn code k seed n hc hk) rfl rfl rfl ?_
  rintro _ _ ⟨m, k', s', rfl, rfl, h1, h2, h3, h4⟩
  simp only [↓wA, ↓wC, wB, frzBE, frzBS, Nat.reduceEqDiff, Nat.reduceAdd, Nat.reduceSub, reduceIte, reduceCtorEq, Nat.reduceBEq, Nat.reduceLT, decide_true]
  exact ⟨_, k', s', rfl, rfl, h1, h2⟩
theorem among_fn (code : List UInt8) (k : Nat) (seed : Int) (v : List Int) (hc : code.length ≤ 1048576) (hk : k ≤ 999999999990) (hv : 0 < v.length) (hl : v.length ≤ 1048576) : FnM prog 85 true (curD code k seed) [.sl false 1 (dl iD v)]
    (fun x' rs => ∃ (m : Int) (k' : Nat) (seed' : Int), x' = curD code k' seed' ∧ rs = [.int .i64 m] ∧ k ≤ k' ∧ k' ≤ k + 2 ∧ m ∈ v) := by
  refine FnM_of' (fn := f85) (by exact func85) c85 r85 (n := 12) (by rfl) (rv := [.tmp 4]) (by rfl) (by decide) (by simp) ?_
  unfold m85
  try simp only [dl_len, ↓wA, ↓wC, wB, frzBE, frzBS, Nat.reduceEqDiff, Nat.reduceAdd, Nat.reduceSub, reduceIte, reduceCtorEq, Nat.reduceBEq, Nat.reduceLT, decide_true]
  refine callM_rel (pick_fn code k seed v.length hc hk) rfl rfl rfl ?_
  rintro _ _ ⟨m, k', s', rfl, rfl, h1, h2, h3, h4⟩
  obtain ⟨y, hy⟩ := get_lt (show m.toNat < v.length by omega)
  repeat' (first
      | (simp only [dl_len, dl_nth, h3, hy, Option.map_some, onC_true, rd_iD, ↓wA, ↓wC, wB, frzBE, frzBS, Nat.reduceEqDiff, Nat.reduceAdd, Nat.reduceSub, reduceIte, reduceCtorEq, Nat.reduceBEq, Nat.reduceLT, decide_true])
      | (refine execG_split (fun h => ?_) (fun h => ?_) <;> simp only [h])
      | (refine execC_split (fun h => ?_) (fun h => ?_) <;> (try simp only [h]))
      | (refine onPick_split (fun h => ?_) (fun h => ?_) <;> (try simp only [h])))
  exact ⟨y, k', s', rfl, rfl, h1, h2, List.mem_of_getElem? hy⟩
end Go.Pe.Try

set_option maxRecDepth 100000
set_option maxHeartbeats 4000000
set_option linter.all false
namespace Go.Pe.Try
open Go.Proofs.Try
theorem yearRow_fn (code : List UInt8) (k : Nat) (seed year : Int) (hc : code.length ≤ 1048576) (hk : k ≤ 999999999000) : FnM prog 136 true (curD code k seed) [.int .i64 year]
    (fun x' rs => ∃ (r : Row) (k' : Nat) (seed' : Int), x' = curD code k' seed' ∧ rs = [r.d] ∧ k ≤ k' ∧ k' ≤ k + 20) := by
  refine FnM_of' (fn := f136) (by exact func136) c136 r136 (n := 53) (by rfl) (rv := [.cell 4 45]) (by rfl) (by decide) (by simp) ?_
  unfold m136
  repeat' (first
      | (simp only [onC_true, ↓wA, ↓wC, wB, frzBE, frzBS, Nat.reduceEqDiff, Nat.reduceAdd, Nat.reduceSub, reduceIte, reduceCtorEq, Nat.reduceBEq, Nat.reduceLT, decide_true, sz45])
      | (refine execG_split (fun h => ?_) (fun h => ?_) <;> simp only [h])
      | (refine execC_split (fun h => ?_) (fun h => ?_) <;> (try simp only [h]))
      | (refine onPick_split (fun h => ?_) (fun h => ?_) <;> (try simp only [h])))
  refine call_frz 2 ?_
  simp only [frz1, frzE, frzS, D.unown, ↓wA, ↓wC, wB, frzBE, frzBS, Nat.reduceEqDiff, Nat.reduceAdd, Nat.reduceSub, reduceIte, reduceCtorEq, Nat.reduceBEq, Nat.reduceLT, decide_true, sz45]
  refine callM_rel (among_fn code k seed [0, 40, 100, 9999] hc (by omega) (by decide) (by decide)) rfl rfl rfl ?_
  rintro _ _ ⟨m, k1, s1, rfl, rfl, hk1, hk1', hmm⟩
  repeat' (first
      | (simp only [onC_true, ↓wA, ↓wC, wB, frzBE, frzBS, Nat.reduceEqDiff, Nat.reduceAdd, Nat.reduceSub, reduceIte, reduceCtorEq, Nat.reduceBEq, Nat.reduceLT, decide_true, sz45])
      | (refine execG_split (fun h => ?_) (fun h => ?_) <;> simp only [h])
      | (refine execC_split (fun h => ?_) (fun h => ?_) <;> (try simp only [h]))
      | (refine onPick_split (fun h => ?_) (fun h => ?_) <;> (try simp only [h])))
  refine call_frz 3 ?_
  simp only [frz1, frzE, frzS, D.unown, ↓wA, ↓wC, wB, frzBE, frzBS, Nat.reduceEqDiff, Nat.reduceAdd, Nat.reduceSub, reduceIte, reduceCtorEq, Nat.reduceBEq, Nat.reduceLT, decide_true, sz45]
  refine callM_rel (among_fn code k1 s1 [0, 3, 10] hc (by omega) (by decide) (by decide)) rfl rfl rfl ?_
  rintro _ _ ⟨p, k2, s2, rfl, rfl, hk2, hk2', hmp⟩
  repeat' (first
      | (simp only [onC_true, ↓wA, ↓wC, wB, frzBE, frzBS, Nat.reduceEqDiff, Nat.reduceAdd, Nat.reduceSub, reduceIte, reduceCtorEq, Nat.reduceBEq, Nat.reduceLT, decide_true, sz45])
      | (refine execG_split (fun h => ?_) (fun h => ?_) <;> simp only [h])
      | (refine execC_split (fun h => ?_) (fun h => ?_) <;> (try simp only [h]))
      | (refine onPick_split (fun h => ?_) (fun h => ?_) <;> (try simp only [h])))
  refine call_frz 4 ?_
  simp only [frz1, frzE, frzS, D.unown, ↓wA, ↓wC, wB, frzBE, frzBS, Nat.reduceEqDiff, Nat.reduceAdd, Nat.reduceSub, reduceIte, reduceCtorEq, Nat.reduceBEq, Nat.reduceLT, decide_true, sz45]
  refine callM_rel (among_fn code k2 s2 [0, 0, 5, 30] hc (by omega) (by decide) (by decide)) rfl rfl rfl ?_
  rintro _ _ ⟨x, k3, s3, rfl, rfl, hk3, hk3', hmx⟩
  repeat' (first
      | (simp only [onC_true, ↓wA, ↓wC, wB, frzBE, frzBS, Nat.reduceEqDiff, Nat.reduceAdd, Nat.reduceSub, reduceIte, reduceCtorEq, Nat.reduceBEq, Nat.reduceLT, decide_true, sz45])
      | (refine execG_split (fun h => ?_) (fun h => ?_) <;> simp only [h])
      | (refine execC_split (fun h => ?_) (fun h => ?_) <;> (try simp only [h]))
      | (refine onPick_split (fun h => ?_) (fun h => ?_) <;> (try simp only [h])))
  refine call_frz 5 ?_
  simp only [frz1, frzE, frzS, D.unown, ↓wA, ↓wC, wB, frzBE, frzBS, Nat.reduceEqDiff, Nat.reduceAdd, Nat.reduceSub, reduceIte, reduceCtorEq, Nat.reduceBEq, Nat.reduceLT, decide_true, sz45]
  refine callM_rel (among_fn code k3 s3 [0, 7] hc (by omega) (by decide) (by decide)) rfl rfl rfl ?_
  rintro _ _ ⟨g, k4, s4, rfl, rfl, hk4, hk4', hmg⟩
  repeat' (first
      | (simp only [onC_true, ↓wA, ↓wC, wB, frzBE, frzBS, Nat.reduceEqDiff, Nat.reduceAdd, Nat.reduceSub, reduceIte, reduceCtorEq, Nat.reduceBEq, Nat.reduceLT, decide_true, sz45])
      | (refine execG_split (fun h => ?_) (fun h => ?_) <;> simp only [h])
      | (refine execC_split (fun h => ?_) (fun h => ?_) <;> (try simp only [h]))
      | (refine onPick_split (fun h => ?_) (fun h => ?_) <;> (try simp only [h])))
  refine callM_rel (pick_fn code k4 s4 80 hc (by omega)) rfl rfl rfl ?_
  rintro _ _ ⟨w, k5, s5, rfl, rfl, hk5, hk5', hw, hw'⟩
  repeat' (first
      | (simp only [onC_true, ↓wA, ↓wC, wB, frzBE, frzBS, Nat.reduceEqDiff, Nat.reduceAdd, Nat.reduceSub, reduceIte, reduceCtorEq, Nat.reduceBEq, Nat.reduceLT, decide_true, sz45])
      | (refine execG_split (fun h => ?_) (fun h => ?_) <;> simp only [h])
      | (refine execC_split (fun h => ?_) (fun h => ?_) <;> (try simp only [h]))
      | (refine onPick_split (fun h => ?_) (fun h => ?_) <;> (try simp only [h])))
  · skip
    refine call_frz 7 ?_
    simp only [frz1, frzE, frzS, D.unown, ↓wA, ↓wC, wB, frzBE, frzBS, Nat.reduceEqDiff, Nat.reduceAdd, Nat.reduceSub, reduceIte, reduceCtorEq, Nat.reduceBEq, Nat.reduceLT, decide_true, sz45]
    refine callM_rel (among_fn code k5 s5 [1899, 2201] hc (by omega) (by decide) (by decide)) rfl rfl rfl ?_
    rintro _ _ ⟨z, k6, s6, rfl, rfl, hk6, hk6', hmz⟩
    repeat' (first
        | (simp only [onC_true, ↓wA, ↓wC, wB, frzBE, frzBS, Nat.reduceEqDiff, Nat.reduceAdd, Nat.reduceSub, reduceIte, reduceCtorEq, Nat.reduceBEq, Nat.reduceLT, decide_true, sz45])
        | (refine execG_split (fun h => ?_) (fun h => ?_) <;> simp only [h])
        | (refine execC_split (fun h => ?_) (fun h => ?_) <;> (try simp only [h]))
        | (refine onPick_split (fun h => ?_) (fun h => ?_) <;> (try simp only [h])))
    exact ⟨⟨z, m, p, x, g⟩, k6, _, rfl, rfl, by omega, by omega⟩
  · skip
    refine call_frz 7 ?_
    simp only [frz1, frzE, frzS, D.unown, ↓wA, ↓wC, wB, frzBE, frzBS, Nat.reduceEqDiff, Nat.reduceAdd, Nat.reduceSub, reduceIte, reduceCtorEq, Nat.reduceBEq, Nat.reduceLT, decide_true, sz45]
    refine callM_rel (among_fn code k5 s5 [-1, 10000] hc (by omega) (by decide) (by decide)) rfl rfl rfl ?_
    rintro _ _ ⟨z, k6, s6, rfl, rfl, hk6, hk6', hmz⟩
    repeat' (first
        | (simp only [onC_true, ↓wA, ↓wC, wB, frzBE, frzBS, Nat.reduceEqDiff, Nat.reduceAdd, Nat.reduceSub, reduceIte, reduceCtorEq, Nat.reduceBEq, Nat.reduceLT, decide_true, sz45])
        | (refine execG_split (fun h => ?_) (fun h => ?_) <;> simp only [h])
        | (refine execC_split (fun h => ?_) (fun h => ?_) <;> (try simp only [h]))
        | (refine onPick_split (fun h => ?_) (fun h => ?_) <;> (try simp only [h])))
    exact ⟨⟨year, z, p, x, g⟩, k6, _, rfl, rfl, by omega, by omega⟩
  · skip
    refine call_frz 7 ?_
    simp only [frz1, frzE, frzS, D.unown, ↓wA, ↓wC, wB, frzBE, frzBS, Nat.reduceEqDiff, Nat.reduceAdd, Nat.reduceSub, reduceIte, reduceCtorEq, Nat.reduceBEq, Nat.reduceLT, decide_true, sz45]
    refine callM_rel (among_fn code k5 s5 [-1, 9999, 10000] hc (by omega) (by decide) (by decide)) rfl rfl rfl ?_
    rintro _ _ ⟨z, k6, s6, rfl, rfl, hk6, hk6', hmz⟩
    repeat' (first
        | (simp only [onC_true, ↓wA, ↓wC, wB, frzBE, frzBS, Nat.reduceEqDiff, Nat.reduceAdd, Nat.reduceSub, reduceIte, reduceCtorEq, Nat.reduceBEq, Nat.reduceLT, decide_true, sz45])
        | (refine execG_split (fun h => ?_) (fun h => ?_) <;> simp only [h])
        | (refine execC_split (fun h => ?_) (fun h => ?_) <;> (try simp only [h]))
        | (refine onPick_split (fun h => ?_) (fun h => ?_) <;> (try simp only [h])))
    exact ⟨⟨year, m, z, x, g⟩, k6, _, rfl, rfl, by omega, by omega⟩
  · skip
    refine call_frz 7 ?_
    simp only [frz1, frzE, frzS, D.unown, ↓wA, ↓wC, wB, frzBE, frzBS, Nat.reduceEqDiff, Nat.reduceAdd, Nat.reduceSub, reduceIte, reduceCtorEq, Nat.reduceBEq, Nat.reduceLT, decide_true, sz45]
    refine callM_rel (among_fn code k5 s5 [-1, 9999, 10000] hc (by omega) (by decide) (by decide)) rfl rfl rfl ?_
    rintro _ _ ⟨z, k6, s6, rfl, rfl, hk6, hk6', hmz⟩
    repeat' (first
        | (simp only [onC_true, ↓wA, ↓wC, wB, frzBE, frzBS, Nat.reduceEqDiff, Nat.reduceAdd, Nat.reduceSub, reduceIte, reduceCtorEq, Nat.reduceBEq, Nat.reduceLT, decide_true, sz45])
        | (refine execG_split (fun h => ?_) (fun h => ?_) <;> simp only [h])
        | (refine execC_split (fun h => ?_) (fun h => ?_) <;> (try simp only [h]))
        | (refine onPick_split (fun h => ?_) (fun h => ?_) <;> (try simp only [h])))
    exact ⟨⟨year, m, p, z, g⟩, k6, _, rfl, rfl, by omega, by omega⟩
  · skip
    refine call_frz 7 ?_
    simp only [frz1, frzE, frzS, D.unown, ↓wA, ↓wC, wB, frzBE, frzBS, Nat.reduceEqDiff, Nat.reduceAdd, Nat.reduceSub, reduceIte, reduceCtorEq, Nat.reduceBEq, Nat.reduceLT, decide_true, sz45]
    refine callM_rel (among_fn code k5 s5 [-1, 9999, 10000] hc (by omega) (by decide) (by decide)) rfl rfl rfl ?_
    rintro _ _ ⟨z, k6, s6, rfl, rfl, hk6, hk6', hmz⟩
    repeat' (first
        | (simp only [onC_true, ↓wA, ↓wC, wB, frzBE, frzBS, Nat.reduceEqDiff, Nat.reduceAdd, Nat.reduceSub, reduceIte, reduceCtorEq, Nat.reduceBEq, Nat.reduceLT, decide_true, sz45])
        | (refine execG_split (fun h => ?_) (fun h => ?_) <;> simp only [h])
        | (refine execC_split (fun h => ?_) (fun h => ?_) <;> (try simp only [h]))
        | (refine onPick_split (fun h => ?_) (fun h => ?_) <;> (try simp only [h])))
    exact ⟨⟨year, m, p, x, z⟩, k6, _, rfl, rfl, by omega, by omega⟩
  · skip
    repeat' (first
        | (simp only [onC_true, ↓wA, ↓wC, wB, frzBE, frzBS, Nat.reduceEqDiff, Nat.reduceAdd, Nat.reduceSub, reduceIte, reduceCtorEq, Nat.reduceBEq, Nat.reduceLT, decide_true, sz45])
        | (refine execG_split (fun h => ?_) (fun h => ?_) <;> simp only [h])
        | (refine execC_split (fun h => ?_) (fun h => ?_) <;> (try simp only [h]))
        | (refine onPick_split (fun h => ?_) (fun h => ?_) <;> (try simp only [h])))
    exact ⟨⟨year, m, p, x, g⟩, k5, _, rfl, rfl, by omega, by omega⟩
end Go.Pe.Try

set_option maxRecDepth 100000
set_option maxHeartbeats 4000000
set_option linter.all false
namespace Go.Pe.Try
open Go.Proofs.Try
theorem ap_row (L : List Row) (x : Row) : (dl Row.d L).app (D.cons x.d .nil) = dl Row.d (L ++ [x]) := app_one (f := Row.d) L x
theorem row_size (r : Row) : r.d.size = 5 := rfl
theorem row_isV (r : Row) : r.d.isV = true := rfl
theorem nil_app : ∀ d : D, D.nil.app d = d := fun d => rfl
theorem yearRows_fn (code : List UInt8) (k : Nat) (seed : Int) (hc : code.length ≤ 1048576) (hk : k ≤ 999999990000) : FnM prog 122 true (curD code k seed) []
    (fun x' rs => ∃ (st : Int) (xs : List Row) (k' : Nat) (seed' : Int), x' = curD code k' seed' ∧ rs = [.int .i64 st, .sl false 5 (rowsD xs)] ∧ k ≤ k' ∧ k' ≤ k + 5000 ∧ xs.length ≤ 12 ∧ -1 ≤ st ∧ st ≤ 10000) := by
  refine FnM_ofg (ps := [[1, 1, 1, 1, 1, 1, 0]]) (fn := f122) (by exact func122) c122 r122 (n := 69) (by rfl) (rv := [.tmp 2, .tmp 3]) (by rfl) (by decide) (by simp) ?_
  unfold m122
  simp only [ghAll, ghAt]
  repeat' (first
      | (simp only [onC_true, ↓wA, ↓wC, wB, frzBE, frzBS, Nat.reduceEqDiff, Nat.reduceAdd, Nat.reduceSub, reduceIte, reduceCtorEq, Nat.reduceBEq, Nat.reduceLT, decide_true])
      | (refine execG_split (fun h => ?_) (fun h => ?_) <;> simp only [h])
      | (refine execC_split (fun h => ?_) (fun h => ?_) <;> (try simp only [h]))
      | (refine onPick_split (fun h => ?_) (fun h => ?_) <;> (try simp only [h])))
  refine call_frz 1 ?_
  simp only [frz1, frzE, frzS, D.unown, ↓wA, ↓wC, wB, frzBE, frzBS, Nat.reduceEqDiff, Nat.reduceAdd, Nat.reduceSub, reduceIte, reduceCtorEq, Nat.reduceBEq, Nat.reduceLT, decide_true]
  refine callM_rel (among_fn code k seed [0, 20, 100, 9999] hc (by omega) (by decide) (by decide)) rfl rfl rfl ?_
  rintro _ _ ⟨st, k1, s1, rfl, rfl, hk1, hk1', hmst⟩
  repeat' (first
      | (simp only [onC_true, ↓wA, ↓wC, wB, frzBE, frzBS, Nat.reduceEqDiff, Nat.reduceAdd, Nat.reduceSub, reduceIte, reduceCtorEq, Nat.reduceBEq, Nat.reduceLT, decide_true])
      | (refine execG_split (fun h => ?_) (fun h => ?_) <;> simp only [h])
      | (refine execC_split (fun h => ?_) (fun h => ?_) <;> (try simp only [h]))
      | (refine onPick_split (fun h => ?_) (fun h => ?_) <;> (try simp only [h])))
  refine call_frz 3 ?_
  simp only [frz1, frzE, frzS, D.unown, ↓wA, ↓wC, wB, frzBE, frzBS, Nat.reduceEqDiff, Nat.reduceAdd, Nat.reduceSub, reduceIte, reduceCtorEq, Nat.reduceBEq, Nat.reduceLT, decide_true]
  refine callM_rel (among_fn code k1 s1 [1900, 1990, 2150] hc (by omega) (by decide) (by decide)) rfl rfl rfl ?_
  rintro _ _ ⟨yr, k2, s2, rfl, rfl, hk2, hk2', hmyr⟩
  repeat' (first
      | (simp only [onC_true, ↓wA, ↓wC, wB, frzBE, frzBS, Nat.reduceEqDiff, Nat.reduceAdd, Nat.reduceSub, reduceIte, reduceCtorEq, Nat.reduceBEq, Nat.reduceLT, decide_true])
      | (refine execG_split (fun h => ?_) (fun h => ?_) <;> simp only [h])
      | (refine execC_split (fun h => ?_) (fun h => ?_) <;> (try simp only [h]))
      | (refine onPick_split (fun h => ?_) (fun h => ?_) <;> (try simp only [h])))
  refine callM_rel (pick_fn code k2 s2 8 hc (by omega)) rfl rfl rfl ?_
  rintro _ _ ⟨n0, k3, s3, rfl, rfl, hk3, hk3', hn0, hn0'⟩
  repeat' (first
      | (simp only [onC_true, ↓wA, ↓wC, wB, frzBE, frzBS, Nat.reduceEqDiff, Nat.reduceAdd, Nat.reduceSub, reduceIte, reduceCtorEq, Nat.reduceBEq, Nat.reduceLT, decide_true])
      | (refine execG_split (fun h => ?_) (fun h => ?_) <;> simp only [h])
      | (refine execC_split (fun h => ?_) (fun h => ?_) <;> (try simp only [h]))
      | (refine onPick_split (fun h => ?_) (fun h => ?_) <;> (try simp only [h])))
  simp only [List.mem_cons, List.not_mem_nil, or_false] at hmst hmyr
  refine exec_loop (fun x : Nat × Int × List Row × Nat × Int => ⟨[(0, .ptr 0 0 []), (4, .d (.int .i64 st)), (5, .d (.sl false 5 (rowsD x.2.2.1))), (6, .d (.int .i64 x.2.1)), (7, .d (.int .i64 x.1))], [.box (curD code x.2.2.2.1 x.2.2.2.2)]⟩)
    (fun x => x.1 + x.2.2.1.length ≤ 7 ∧ 0 ≤ x.2.1 ∧ x.2.1 + 5 * x.1 ≤ 2200 ∧ k ≤ x.2.2.2.1 ∧ x.2.2.2.1 + 100 * x.1 ≤ k + 800) (fun x => x.1) (n0.toNat, yr, [], k3, s3)
    ((frzO 2 rfl).trans (weak_of _ rfl ⟨⟨rfl, rfl⟩, ⟨rfl, rfl⟩, ⟨rfl, rfl⟩, ⟨rfl, rfl⟩, ⟨by show SV.d (.int .i64 n0) = SV.d (.int .i64 (n0.toNat : Int)); rw [Int.toNat_of_nonneg hn0], rfl⟩, trivial⟩)) ⟨by simp; omega, by simp only; omega, by simp only; omega, by simp only; omega, by simp only; omega⟩ ?_
  rintro ⟨n, yr, xs, k4, s4⟩ ⟨i1, i2, i3, i4, i5⟩
  simp only at i1 i2 i3 i4 i5 ⊢
  cases n with
  | succ n =>
    have hd : decide ((0 : Int) < ((n + 1 : Nat) : Int)) = true := decide_eq_true (by omega)
    have e5 : (((n + 1 : Nat) : Int) - 1) = (n : Int) := by omega
    repeat' (first
        | (simp only [hd, dl_len, nil_app, onC_true, ↓wA, ↓wC, wB, frzBE, frzBS, Nat.reduceEqDiff, Nat.reduceAdd, Nat.reduceSub, reduceIte, reduceCtorEq, Nat.reduceBEq, Nat.reduceLT, decide_true])
        | (with_reducible refine onC_i ?_ ?_; focus omega)
        | (with_reducible refine onC_i ?_ ?_; focus (simp; done))
        | (with_reducible refine onI_bare ?_ ?_; focus (simp only [InR]; omega))
        | (refine execG_split (fun h => ?_) (fun h => ?_) <;> simp only [h])
        | (refine execC_split (fun h => ?_) (fun h => ?_) <;> (try simp only [h]))
        | (refine onPick_split (fun h => ?_) (fun h => ?_) <;> (try simp only [h])))
    refine callM_rel (yearRow_fn code k4 s4 yr hc (by omega)) rfl rfl rfl ?_
    rintro _ _ ⟨r, k5, s5, rfl, rfl, hk5, hk5'⟩
    have hG := l26Good_fn st (xs ++ [r]) (by simp only [InR]; omega) (by simp; omega)
    have hG' : Fn prog 76 [.int .i64 st, .sl false 5 (dl Row.d (xs ++ [r])).unown] (fun rs => rs = [.bool (good st (xs ++ [r]))]) := by rw [show (dl Row.d (xs ++ [r])).unown = dl Row.d (xs ++ [r]) from rows_unown _]; exact hG
    repeat' (first
        | (simp only [hd, Row.noOwn, row_size, row_isV, dl_len, ap_row, rows_noOwn, onC_true, ↓wA, ↓wC, wB, frzBE, frzBS, Nat.reduceEqDiff, Nat.reduceAdd, Nat.reduceSub, reduceIte, reduceCtorEq, Nat.reduceBEq, Nat.reduceLT, decide_true])
        | (with_reducible refine onC_i ?_ ?_; focus omega)
        | (with_reducible refine onC_i ?_ ?_; focus (simp; done))
        | (refine call_det (hG') rfl rfl ?_)
        | (refine callP_det (hG') rfl rfl ?_)
        | (refine execG_split (fun h => ?_) (fun h => ?_) <;> simp only [h])
        | (refine execC_split (fun h => ?_) (fun h => ?_) <;> (try simp only [h]))
        | (refine onPick_split (fun h => ?_) (fun h => ?_) <;> (try simp only [h])))
    · skip
      refine call_frz 3 ?_
      simp only [frz1, frzE, frzS, D.unown, ↓wA, ↓wC, wB, frzBE, frzBS, Nat.reduceEqDiff, Nat.reduceAdd, Nat.reduceSub, reduceIte, reduceCtorEq, Nat.reduceBEq, Nat.reduceLT, decide_true]
      refine callM_rel (among_fn code k5 s5 [1, 1, 2, 5] hc (by omega) (by decide) (by decide)) rfl rfl rfl ?_
      rintro _ _ ⟨z, k6, s6, rfl, rfl, hk6, hk6', hmz⟩
      simp only [List.mem_cons, List.not_mem_nil, or_false] at hmz
      repeat' (first
          | (simp only [onC_true, ↓wA, ↓wC, wB, frzBE, frzBS, Nat.reduceEqDiff, Nat.reduceAdd, Nat.reduceSub, reduceIte, reduceCtorEq, Nat.reduceBEq, Nat.reduceLT, decide_true])
          | (with_reducible refine onI_bare ?_ ?_; focus (simp only [InR]; omega))
          | (refine execG_split (fun h => ?_) (fun h => ?_) <;> simp only [h])
          | (refine execC_split (fun h => ?_) (fun h => ?_) <;> (try simp only [h]))
          | (refine onPick_split (fun h => ?_) (fun h => ?_) <;> (try simp only [h])))
      rw [e5]
      exact ⟨(n, yr + z, xs ++ [r], k6, s6), (frzO 1 rfl).trans (weak_of _ rfl ⟨⟨rfl, rfl⟩, ⟨rfl, rfl⟩, ⟨by simp only [frzE, frzS, D.unown, rows_unown, ↓wA, ↓wC, wB, frzBE, frzBS, Nat.reduceEqDiff, Nat.reduceAdd, Nat.reduceSub, reduceIte, reduceCtorEq, Nat.reduceBEq, Nat.reduceLT, decide_true], rfl⟩, ⟨rfl, rfl⟩, ⟨rfl, rfl⟩, trivial⟩), ⟨by simp; omega, by simp only; omega, by simp only; omega, by simp only; omega, by simp only; omega⟩, by simp⟩
    · skip
      refine callM_rel (one_fn code k5 s5 30 hc (by omega)) rfl rfl rfl ?_
      rintro _ _ ⟨b, k6, s6, rfl, rfl, hk6, hk6'⟩
      repeat' (first
          | (simp only [hd, onC_true, ↓wA, ↓wC, wB, frzBE, frzBS, Nat.reduceEqDiff, Nat.reduceAdd, Nat.reduceSub, reduceIte, reduceCtorEq, Nat.reduceBEq, Nat.reduceLT, decide_true])
          | (refine execG_split (fun h => ?_) (fun h => ?_) <;> simp only [h])
          | (refine execC_split (fun h => ?_) (fun h => ?_) <;> (try simp only [h]))
          | (refine onPick_split (fun h => ?_) (fun h => ?_) <;> (try simp only [h])))
      · skip
        refine call_frz 3 ?_
        simp only [frz1, frzE, frzS, D.unown, ↓wA, ↓wC, wB, frzBE, frzBS, Nat.reduceEqDiff, Nat.reduceAdd, Nat.reduceSub, reduceIte, reduceCtorEq, Nat.reduceBEq, Nat.reduceLT, decide_true]
        refine callM_rel (among_fn code k6 s6 [1, 1, 2, 5] hc (by omega) (by decide) (by decide)) rfl rfl rfl ?_
        rintro _ _ ⟨z, k7, s7, rfl, rfl, hk7, hk7', hmz⟩
        simp only [List.mem_cons, List.not_mem_nil, or_false] at hmz
        repeat' (first
            | (simp only [onC_true, ↓wA, ↓wC, wB, frzBE, frzBS, Nat.reduceEqDiff, Nat.reduceAdd, Nat.reduceSub, reduceIte, reduceCtorEq, Nat.reduceBEq, Nat.reduceLT, decide_true])
            | (with_reducible refine onI_bare ?_ ?_; focus (simp only [InR]; omega))
            | (refine execG_split (fun h => ?_) (fun h => ?_) <;> simp only [h])
            | (refine execC_split (fun h => ?_) (fun h => ?_) <;> (try simp only [h]))
            | (refine onPick_split (fun h => ?_) (fun h => ?_) <;> (try simp only [h])))
        rw [e5]
        exact ⟨(n, yr + z, xs ++ [r], k7, s7), (frzO 1 rfl).trans (weak_of _ rfl ⟨⟨rfl, rfl⟩, ⟨rfl, rfl⟩, ⟨by simp only [frzE, frzS, D.unown, rows_unown, ↓wA, ↓wC, wB, frzBE, frzBS, Nat.reduceEqDiff, Nat.reduceAdd, Nat.reduceSub, reduceIte, reduceCtorEq, Nat.reduceBEq, Nat.reduceLT, decide_true], rfl⟩, ⟨rfl, rfl⟩, ⟨rfl, rfl⟩, trivial⟩), ⟨by simp; omega, by simp only; omega, by simp only; omega, by simp only; omega, by simp only; omega⟩, by simp⟩
      · skip
        refine call_frz 3 ?_
        simp only [frz1, frzE, frzS, D.unown, ↓wA, ↓wC, wB, frzBE, frzBS, Nat.reduceEqDiff, Nat.reduceAdd, Nat.reduceSub, reduceIte, reduceCtorEq, Nat.reduceBEq, Nat.reduceLT, decide_true]
        refine callM_rel (among_fn code k6 s6 [1, 1, 2, 5] hc (by omega) (by decide) (by decide)) rfl rfl rfl ?_
        rintro _ _ ⟨z, k7, s7, rfl, rfl, hk7, hk7', hmz⟩
        simp only [List.mem_cons, List.not_mem_nil, or_false] at hmz
        repeat' (first
            | (simp only [onC_true, ↓wA, ↓wC, wB, frzBE, frzBS, Nat.reduceEqDiff, Nat.reduceAdd, Nat.reduceSub, reduceIte, reduceCtorEq, Nat.reduceBEq, Nat.reduceLT, decide_true])
            | (with_reducible refine onI_bare ?_ ?_; focus (simp only [InR]; omega))
            | (refine execG_split (fun h => ?_) (fun h => ?_) <;> simp only [h])
            | (refine execC_split (fun h => ?_) (fun h => ?_) <;> (try simp only [h]))
            | (refine onPick_split (fun h => ?_) (fun h => ?_) <;> (try simp only [h])))
        rw [e5]
        exact ⟨(n, yr + z, xs, k7, s7), (weak_of _ rfl ⟨⟨rfl, rfl⟩, ⟨rfl, rfl⟩, ⟨rfl, rfl⟩, ⟨rfl, rfl⟩, ⟨rfl, rfl⟩, trivial⟩), ⟨by simp; omega, by simp only; omega, by simp only; omega, by simp only; omega, by simp only; omega⟩, by simp⟩
  | zero =>
    have hd : decide ((0 : Int) < ((0 : Nat) : Int)) = false := rfl
    repeat' (first
        | (simp only [hd, ↓wA, ↓wC, wB, frzBE, frzBS, Nat.reduceEqDiff, Nat.reduceAdd, Nat.reduceSub, reduceIte, reduceCtorEq, Nat.reduceBEq, Nat.reduceLT, decide_true])
        | (refine execG_split (fun h => ?_) (fun h => ?_) <;> simp only [h])
        | (refine execC_split (fun h => ?_) (fun h => ?_) <;> (try simp only [h]))
        | (refine onPick_split (fun h => ?_) (fun h => ?_) <;> (try simp only [h])))
    refine callM_rel (pick_fn code k4 s4 30 hc (by omega)) rfl rfl rfl ?_
    rintro _ _ ⟨w, k5, s5, rfl, rfl, hk5, hk5', hw, hw'⟩
    repeat' (first
        | (simp only [onC_true, ↓wA, ↓wC, wB, frzBE, frzBS, Nat.reduceEqDiff, Nat.reduceAdd, Nat.reduceSub, reduceIte, reduceCtorEq, Nat.reduceBEq, Nat.reduceLT, decide_true])
        | (refine execG_split (fun h => ?_) (fun h => ?_) <;> simp only [h])
        | (refine execC_split (fun h => ?_) (fun h => ?_) <;> (try simp only [h]))
        | (refine onPick_split (fun h => ?_) (fun h => ?_) <;> (try simp only [h])))
    · skip
      refine call_frz 1 ?_
      simp only [frz1, frzE, frzS, D.unown, ↓wA, ↓wC, wB, frzBE, frzBS, Nat.reduceEqDiff, Nat.reduceAdd, Nat.reduceSub, reduceIte, reduceCtorEq, Nat.reduceBEq, Nat.reduceLT, decide_true]
      refine callM_rel (among_fn code k5 s5 [-1, 10000] hc (by omega) (by decide) (by decide)) rfl rfl rfl ?_
      rintro _ _ ⟨z, k6, s6, rfl, rfl, hk6, hk6', hmz⟩
      simp only [List.mem_cons, List.not_mem_nil, or_false] at hmz
      repeat' (first
          | (simp only [onC_true, ↓wA, ↓wC, wB, frzBE, frzBS, Nat.reduceEqDiff, Nat.reduceAdd, Nat.reduceSub, reduceIte, reduceCtorEq, Nat.reduceBEq, Nat.reduceLT, decide_true])
          | (refine execG_split (fun h => ?_) (fun h => ?_) <;> simp only [h])
          | (refine execC_split (fun h => ?_) (fun h => ?_) <;> (try simp only [h]))
          | (refine onPick_split (fun h => ?_) (fun h => ?_) <;> (try simp only [h])))
      refine exec_gh1 (Weak.refl _) ?_
      have hno := rows_noOwn xs
      repeat' (first
          | (simp only [hno, onC_true, ↓wA, ↓wC, wB, frzBE, frzBS, Nat.reduceEqDiff, Nat.reduceAdd, Nat.reduceSub, reduceIte, reduceCtorEq, Nat.reduceBEq, Nat.reduceLT, decide_true])
          | (refine execG_split (fun h => ?_) (fun h => ?_) <;> simp only [h])
          | (refine execC_split (fun h => ?_) (fun h => ?_) <;> (try simp only [h]))
          | (refine onPick_split (fun h => ?_) (fun h => ?_) <;> (try simp only [h])))
      exact ⟨z, xs, k6, s6, rfl, rfl, by omega, by omega, by omega, by omega, by omega⟩
    · have hap : ∀ (L : List Row) (n : Int), (dl Row.d L).app (D.cons (.st (.cons (.int .i64 n) (.cons (.int .i64 1) (.cons (.int .i64 0) (.cons (.int .i64 0) (.cons (.int .i64 0) .nil)))))) .nil) = dl Row.d (L ++ [⟨n, 1, 0, 0, 0⟩]) := fun L n => app_one (f := Row.d) L ⟨n, 1, 0, 0, 0⟩
      refine exec_loop (fun x : Nat × List Row × Nat × Int => ⟨[(0, .ptr 0 0 []), (4, .d (.int .i64 st)), (5, .own 1), (9, .d (.int .i64 x.1))], [.box (curD code x.2.2.1 x.2.2.2), .val (.sl true 5 (dl Row.d x.2.1))]⟩)
        (fun x => x.1 ≤ 11 ∧ x.2.1.length = x.1 ∧ k ≤ x.2.2.1 ∧ x.2.2.1 ≤ k + 900 + 2 * x.1) (fun x => 20 - x.1) (0, [], k5, s5) (weak_of _ rfl ⟨⟨rfl, rfl⟩, ⟨rfl, rfl⟩, ⟨rfl, rfl⟩, ⟨rfl, rfl⟩, trivial⟩) ⟨by simp, by simp, by simp; omega, by simp; omega⟩ ?_
      rintro ⟨j, ys, k6, s6⟩ ⟨j1, j2, j3, j4⟩
      simp only at j1 j2 j3 j4 ⊢
      repeat' (first
          | (simp only [onC_true, ↓wA, ↓wC, wB, frzBE, frzBS, Nat.reduceEqDiff, Nat.reduceAdd, Nat.reduceSub, reduceIte, reduceCtorEq, Nat.reduceBEq, Nat.reduceLT, decide_true])
          | (refine execG_split (fun h => ?_) (fun h => ?_) <;> simp only [h])
          | (refine execC_split (fun h => ?_) (fun h => ?_) <;> (try simp only [h]))
          | (refine onPick_split (fun h => ?_) (fun h => ?_) <;> (try simp only [h])))
      refine callM_rel (pick_fn code k6 s6 2 hc (by omega)) rfl rfl rfl ?_
      rintro _ _ ⟨q, k7, s7, rfl, rfl, hk7, hk7', hq, hq'⟩
      repeat' (first
          | (simp only [dl_len, hap, onC_true, ↓wA, ↓wC, wB, frzBE, frzBS, Nat.reduceEqDiff, Nat.reduceAdd, Nat.reduceSub, reduceIte, reduceCtorEq, Nat.reduceBEq, Nat.reduceLT, decide_true])
          | (with_reducible refine onC_i ?_ ?_; focus omega)
          | (with_reducible refine onC_i ?_ ?_; focus (simp; done))
          | (with_reducible refine onI_bare ?_ ?_; focus (simp only [InR]; omega))
          | (refine execG_split (fun h => ?_) (fun h => ?_) <;> simp only [h])
          | (refine execC_split (fun h => ?_) (fun h => ?_) <;> (try simp only [h]))
          | (refine onPick_split (fun h => ?_) (fun h => ?_) <;> (try simp only [h])))
      · have hlt := of_decide_eq_true (show decide ((j : Int) < 10 + q) = true by assumption)
        exact ⟨(j + 1, ys ++ [⟨2000 + (j : Int), 1, 0, 0, 0⟩], k7, s7), (weak_of _ rfl ⟨⟨rfl, rfl⟩, ⟨rfl, rfl⟩, ⟨rfl, rfl⟩, ⟨rfl, rfl⟩, trivial⟩), ⟨by simp; omega, by simp; omega, by simp; omega, by simp; omega⟩, by simp; omega⟩
      · refine exec_gh1 (frzO 1 rfl) ?_
        have hno := rows_noOwn ys
        simp only [frzE, frzS, D.unown, rows_unown, ↓wA, ↓wC, wB, frzBE, frzBS, Nat.reduceEqDiff, Nat.reduceAdd, Nat.reduceSub, reduceIte, reduceCtorEq, Nat.reduceBEq, Nat.reduceLT, decide_true]
        repeat' (first
            | (simp only [hno, onC_true, ↓wA, ↓wC, wB, frzBE, frzBS, Nat.reduceEqDiff, Nat.reduceAdd, Nat.reduceSub, reduceIte, reduceCtorEq, Nat.reduceBEq, Nat.reduceLT, decide_true])
            | (refine execG_split (fun h => ?_) (fun h => ?_) <;> simp only [h])
            | (refine execC_split (fun h => ?_) (fun h => ?_) <;> (try simp only [h]))
            | (refine onPick_split (fun h => ?_) (fun h => ?_) <;> (try simp only [h])))
        all_goals exact ⟨st, ys, k7, s7, rfl, rfl, by omega, by omega, by omega, by omega, by omega⟩
    · refine exec_gh1 (Weak.refl _) ?_
      have hno := rows_noOwn xs
      repeat' (first
          | (simp only [hno, onC_true, ↓wA, ↓wC, wB, frzBE, frzBS, Nat.reduceEqDiff, Nat.reduceAdd, Nat.reduceSub, reduceIte, reduceCtorEq, Nat.reduceBEq, Nat.reduceLT, decide_true])
          | (refine execG_split (fun h => ?_) (fun h => ?_) <;> simp only [h])
          | (refine execC_split (fun h => ?_) (fun h => ?_) <;> (try simp only [h]))
          | (refine onPick_split (fun h => ?_) (fun h => ?_) <;> (try simp only [h])))
      exact ⟨st, xs, k5, s5, rfl, rfl, by omega, by omega, by omega, by omega, by omega⟩
/-- a drawn stock and rows. -/
def drawnR (st : Int) (xs : List Row) : Prop := xs.length ≤ 12 ∧ -1 ≤ st ∧ st ≤ 10000
theorem drawRows_fn (code : List UInt8) (hc : code.length ≤ 1048576) : Fn prog 72 [.sl false 1 (bytesD code)] (fun rs => ∃ (st : Int) (xs : List Row), rs = [.int .i64 st, .sl false 5 (rowsD xs)] ∧ drawnR st xs) := by
  refine Fn_of' (fn := f72) (by exact func72) c72 r72 (n := 17) (by rfl) (rv := [.tmp 2, .tmp 3]) (by rfl) (by simp) ?_
  unfold m72
  repeat' (first
      | (simp only [onC_true, bytes_noOwn, ↓wA, ↓wC, wB, frzBE, frzBS, Nat.reduceEqDiff, Nat.reduceAdd, Nat.reduceSub, reduceIte, reduceCtorEq, Nat.reduceBEq, Nat.reduceLT, decide_true])
      | (refine execG_split (fun h => ?_) (fun h => ?_) <;> simp only [h])
      | (refine execC_split (fun h => ?_) (fun h => ?_) <;> (try simp only [h]))
      | (refine onPick_split (fun h => ?_) (fun h => ?_) <;> (try simp only [h])))
  refine callM_rel (yearRows_fn code 0 0 hc (by omega)) rfl rfl rfl ?_
  rintro _ _ ⟨st, xs, k1, s1, rfl, rfl, hk1, hk1', hxl, hs1, hs2⟩
  have hno := rows_noOwn xs
  repeat' (first
      | (simp only [hno, onC_true, ↓wA, ↓wC, wB, frzBE, frzBS, Nat.reduceEqDiff, Nat.reduceAdd, Nat.reduceSub, reduceIte, reduceCtorEq, Nat.reduceBEq, Nat.reduceLT, decide_true])
      | (refine execG_split (fun h => ?_) (fun h => ?_) <;> simp only [h])
      | (refine execC_split (fun h => ?_) (fun h => ?_) <;> (try simp only [h]))
      | (refine onPick_split (fun h => ?_) (fun h => ?_) <;> (try simp only [h])))
  exact ⟨st, xs, rfl, hxl, hs1, hs2⟩
theorem yDrawLargestRest_fn (code : List UInt8) (hc : code.length ≤ 1048576) : Fn prog 17 [.sl false 1 (bytesD code)] (fun rs => ∃ (st : Int) (xs : List Row), rs = [.int .i64 st, .sl false 5 (rowsD xs)] ∧ drawnR st xs) := by
  refine Fn_of' (fn := f17) (by exact func17) c17 r17 (n := 13) (by rfl) (rv := [.tmp 2, .tmp 3]) (by rfl) (by simp) ?_
  unfold m17
  repeat' (first
      | (simp only [onC_true, bytes_noOwn, ↓wA, ↓wC, wB, frzBE, frzBS, Nat.reduceEqDiff, Nat.reduceAdd, Nat.reduceSub, reduceIte, reduceCtorEq, Nat.reduceBEq, Nat.reduceLT, decide_true])
      | (refine execG_split (fun h => ?_) (fun h => ?_) <;> simp only [h])
      | (refine execC_split (fun h => ?_) (fun h => ?_) <;> (try simp only [h]))
      | (refine onPick_split (fun h => ?_) (fun h => ?_) <;> (try simp only [h])))
  refine call_rel (drawRows_fn code hc) rfl fun rs h => ?_
  obtain ⟨st, xs, rfl, hx⟩ := h
  have hno := rows_noOwn xs
  refine ⟨.inl rfl, ?_⟩
  repeat' (first
      | (simp only [hno, onC_true, ↓wA, ↓wC, wB, frzBE, frzBS, Nat.reduceEqDiff, Nat.reduceAdd, Nat.reduceSub, reduceIte, reduceCtorEq, Nat.reduceBEq, Nat.reduceLT, decide_true])
      | (refine execG_split (fun h => ?_) (fun h => ?_) <;> simp only [h])
      | (refine execC_split (fun h => ?_) (fun h => ?_) <;> (try simp only [h]))
      | (refine onPick_split (fun h => ?_) (fun h => ?_) <;> (try simp only [h])))
  exact ⟨st, xs, rfl, hx⟩
theorem yDrawYearsToClear_fn (code : List UInt8) (hc : code.length ≤ 1048576) : Fn prog 21 [.sl false 1 (bytesD code)] (fun rs => ∃ (st : Int) (xs : List Row), rs = [.int .i64 st, .sl false 5 (rowsD xs)] ∧ drawnR st xs) := by
  refine Fn_of' (fn := f21) (by exact func21) c21 r21 (n := 13) (by rfl) (rv := [.tmp 2, .tmp 3]) (by rfl) (by simp) ?_
  unfold m21
  repeat' (first
      | (simp only [onC_true, bytes_noOwn, ↓wA, ↓wC, wB, frzBE, frzBS, Nat.reduceEqDiff, Nat.reduceAdd, Nat.reduceSub, reduceIte, reduceCtorEq, Nat.reduceBEq, Nat.reduceLT, decide_true])
      | (refine execG_split (fun h => ?_) (fun h => ?_) <;> simp only [h])
      | (refine execC_split (fun h => ?_) (fun h => ?_) <;> (try simp only [h]))
      | (refine onPick_split (fun h => ?_) (fun h => ?_) <;> (try simp only [h])))
  refine call_rel (drawRows_fn code hc) rfl fun rs h => ?_
  obtain ⟨st, xs, rfl, hx⟩ := h
  have hno := rows_noOwn xs
  refine ⟨.inl rfl, ?_⟩
  repeat' (first
      | (simp only [hno, onC_true, ↓wA, ↓wC, wB, frzBE, frzBS, Nat.reduceEqDiff, Nat.reduceAdd, Nat.reduceSub, reduceIte, reduceCtorEq, Nat.reduceBEq, Nat.reduceLT, decide_true])
      | (refine execG_split (fun h => ?_) (fun h => ?_) <;> simp only [h])
      | (refine execC_split (fun h => ?_) (fun h => ?_) <;> (try simp only [h]))
      | (refine onPick_split (fun h => ?_) (fun h => ?_) <;> (try simp only [h])))
  exact ⟨st, xs, rfl, hx⟩
theorem yDrawMissingYears_fn (code : List UInt8) (hc : code.length ≤ 1048576) : Fn prog 24 [.sl false 1 (bytesD code)] (fun rs => ∃ (st : Int) (xs : List Row), rs = [.int .i64 st, .sl false 5 (rowsD xs)] ∧ drawnR st xs) := by
  refine Fn_of' (fn := f24) (by exact func24) c24 r24 (n := 13) (by rfl) (rv := [.tmp 2, .tmp 3]) (by rfl) (by simp) ?_
  unfold m24
  repeat' (first
      | (simp only [onC_true, bytes_noOwn, ↓wA, ↓wC, wB, frzBE, frzBS, Nat.reduceEqDiff, Nat.reduceAdd, Nat.reduceSub, reduceIte, reduceCtorEq, Nat.reduceBEq, Nat.reduceLT, decide_true])
      | (refine execG_split (fun h => ?_) (fun h => ?_) <;> simp only [h])
      | (refine execC_split (fun h => ?_) (fun h => ?_) <;> (try simp only [h]))
      | (refine onPick_split (fun h => ?_) (fun h => ?_) <;> (try simp only [h])))
  refine call_rel (drawRows_fn code hc) rfl fun rs h => ?_
  obtain ⟨st, xs, rfl, hx⟩ := h
  have hno := rows_noOwn xs
  refine ⟨.inl rfl, ?_⟩
  repeat' (first
      | (simp only [hno, onC_true, ↓wA, ↓wC, wB, frzBE, frzBS, Nat.reduceEqDiff, Nat.reduceAdd, Nat.reduceSub, reduceIte, reduceCtorEq, Nat.reduceBEq, Nat.reduceLT, decide_true])
      | (refine execG_split (fun h => ?_) (fun h => ?_) <;> simp only [h])
      | (refine execC_split (fun h => ?_) (fun h => ?_) <;> (try simp only [h]))
      | (refine onPick_split (fun h => ?_) (fun h => ?_) <;> (try simp only [h])))
  exact ⟨st, xs, rfl, hx⟩
theorem yDrawDestroyedShare_fn (code : List UInt8) (hc : code.length ≤ 1048576) : Fn prog 29 [.sl false 1 (bytesD code)] (fun rs => ∃ (st : Int) (xs : List Row), rs = [.int .i64 st, .sl false 5 (rowsD xs)] ∧ drawnR st xs) := by
  refine Fn_of' (fn := f29) (by exact func29) c29 r29 (n := 13) (by rfl) (rv := [.tmp 2, .tmp 3]) (by rfl) (by simp) ?_
  unfold m29
  repeat' (first
      | (simp only [onC_true, bytes_noOwn, ↓wA, ↓wC, wB, frzBE, frzBS, Nat.reduceEqDiff, Nat.reduceAdd, Nat.reduceSub, reduceIte, reduceCtorEq, Nat.reduceBEq, Nat.reduceLT, decide_true])
      | (refine execG_split (fun h => ?_) (fun h => ?_) <;> simp only [h])
      | (refine execC_split (fun h => ?_) (fun h => ?_) <;> (try simp only [h]))
      | (refine onPick_split (fun h => ?_) (fun h => ?_) <;> (try simp only [h])))
  refine call_rel (drawRows_fn code hc) rfl fun rs h => ?_
  obtain ⟨st, xs, rfl, hx⟩ := h
  have hno := rows_noOwn xs
  refine ⟨.inl rfl, ?_⟩
  repeat' (first
      | (simp only [hno, onC_true, ↓wA, ↓wC, wB, frzBE, frzBS, Nat.reduceEqDiff, Nat.reduceAdd, Nat.reduceSub, reduceIte, reduceCtorEq, Nat.reduceBEq, Nat.reduceLT, decide_true])
      | (refine execG_split (fun h => ?_) (fun h => ?_) <;> simp only [h])
      | (refine execC_split (fun h => ?_) (fun h => ?_) <;> (try simp only [h]))
      | (refine onPick_split (fun h => ?_) (fun h => ?_) <;> (try simp only [h])))
  exact ⟨st, xs, rfl, hx⟩
end Go.Pe.Try

set_option maxRecDepth 100000
set_option maxHeartbeats 4000000
set_option linter.all false
namespace Go.Pe.Try
open Go.Proofs.Try
theorem rBig_fn (code : List UInt8) : Fn prog 16 [.sl false 1 (bytesD code)] (fun rs => rs = [.bool (decide ((65536 : Int) < (code.length : Int)))]) := by
  refine Fn_of' (fn := f16) (by exact func16) c16 r16 (n := 6) (by rfl) (rv := [.tmp 2]) (by rfl) (by simp) ?_
  unfold m16
  repeat' (first
      | (simp only [bytesD_len, ↓wA, ↓wC, wB, frzBE, frzBS, Nat.reduceEqDiff, Nat.reduceAdd, Nat.reduceSub, reduceIte, reduceCtorEq, Nat.reduceBEq, Nat.reduceLT, decide_true])
      | (refine execG_split (fun h => ?_) (fun h => ?_) <;> simp only [h])
      | (refine execC_split (fun h => ?_) (fun h => ?_) <;> (try simp only [h]))
      | (refine onPick_split (fun h => ?_) (fun h => ?_) <;> (try simp only [h])))
theorem rInts_refl (v : List Int) (hlen : v.length ≤ 1048576) : Fn prog 27 [.sl false 1 (dl iD v), .sl false 1 (dl iD v)] (fun rs => rs = [.bool true]) := by
  refine Fn_of' (fn := f27) (by exact func27) c27 r27 (n := 26) (by rfl) (rv := [.tmp 4]) (by rfl) (by simp) ?_
  unfold m27
  repeat' (first
      | (simp only [dl_len, ↓wA, ↓wC, wB, frzBE, frzBS, Nat.reduceEqDiff, Nat.reduceAdd, Nat.reduceSub, reduceIte, reduceCtorEq, Nat.reduceBEq, Nat.reduceLT, decide_true])
      | (refine execG_split (fun h => ?_) (fun h => ?_) <;> simp only [h])
      | (refine execC_split (fun h => ?_) (fun h => ?_) <;> (try simp only [h]))
      | (refine onPick_split (fun h => ?_) (fun h => ?_) <;> (try simp only [h])))
  refine exec_range v.length (fun i : Nat => ⟨[(0, .d (.sl false 1 (dl iD v))), (1, .d (.sl false 1 (dl iD v))), (5, .d (.int .i64 i))], []⟩) (fun _ => True) (weak_of _ rfl ⟨⟨rfl, rfl⟩, ⟨rfl, rfl⟩, ⟨rfl, rfl⟩, trivial⟩) trivial ?_ ?_
  · intro i hlt _ hd h0
    obtain ⟨r, hr⟩ := get_lt hlt
    repeat' (first
        | (simp only [dl_len, dl_nth, hd, Int.toNat_natCast, hr, Option.map_some, h0, onC_true, ↓rd_iD, ↓wA, ↓wC, wB, frzBE, frzBS, Nat.reduceEqDiff, Nat.reduceAdd, Nat.reduceSub, reduceIte, reduceCtorEq, Nat.reduceBEq, Nat.reduceLT, decide_true])
        | (with_reducible refine onI_bare ?_ ?_; focus (simp only [InR]; omega))
        | (refine execG_split (fun h => ?_) (fun h => ?_) <;> simp only [h])
        | (refine execC_split (fun h => ?_) (fun h => ?_) <;> (try simp only [h]))
        | (refine onPick_split (fun h => ?_) (fun h => ?_) <;> (try simp only [h])))
    exact ⟨i + 1, (weak_of _ rfl ⟨⟨rfl, rfl⟩, ⟨rfl, rfl⟩, ⟨rfl, rfl⟩, trivial⟩), by omega, by omega⟩
  · intro _ hd
    repeat' (first
        | (simp only [dl_len, hd, ↓wA, ↓wC, wB, frzBE, frzBS, Nat.reduceEqDiff, Nat.reduceAdd, Nat.reduceSub, reduceIte, reduceCtorEq, Nat.reduceBEq, Nat.reduceLT, decide_true])
        | (refine execG_split (fun h => ?_) (fun h => ?_) <;> simp only [h])
        | (refine execC_split (fun h => ?_) (fun h => ?_) <;> (try simp only [h]))
        | (refine onPick_split (fun h => ?_) (fun h => ?_) <;> (try simp only [h])))
theorem rHas_fn (v : List Int) (n : Int) (hlen : v.length ≤ 1048576) : Fn prog 28 [.sl false 1 (dl iD v), .int .i64 n] (fun rs => rs = [.bool (v.contains n)]) := by
  rw [← any_eq_contains]
  refine Fn_of' (fn := f28) (by exact func28) c28 r28 (n := 18) (by rfl) (rv := [.tmp 4]) (by rfl) (by simp) ?_
  unfold m28
  repeat' (first
      | (simp only [dl_len, ↓wA, ↓wC, wB, frzBE, frzBS, Nat.reduceEqDiff, Nat.reduceAdd, Nat.reduceSub, reduceIte, reduceCtorEq, Nat.reduceBEq, Nat.reduceLT, decide_true])
      | (refine execG_split (fun h => ?_) (fun h => ?_) <;> simp only [h])
      | (refine execC_split (fun h => ?_) (fun h => ?_) <;> (try simp only [h]))
      | (refine onPick_split (fun h => ?_) (fun h => ?_) <;> (try simp only [h])))
  refine exec_range v.length (fun i : Nat => ⟨[(0, .d (.sl false 1 (dl iD v))), (1, .d (.int .i64 n)), (5, .d (.int .i64 i))], []⟩) (fun i => ∀ j r, j < i → v[j]? = some r → decide (n = r) = false) (weak_of _ rfl ⟨⟨rfl, rfl⟩, ⟨rfl, rfl⟩, ⟨rfl, rfl⟩, trivial⟩) (fun j r hj => by omega) ?_ ?_
  · intro i hlt hinv hd h0
    obtain ⟨r, hr⟩ := get_lt hlt
    have hsym : decide (r = n) = decide (n = r) := decide_eq_decide.2 eq_comm
    repeat' (first
        | (simp only [dl_len, dl_nth, hd, Int.toNat_natCast, hr, Option.map_some, h0, onC_true, ↓rd_iD, hsym, ↓wA, ↓wC, wB, frzBE, frzBS, Nat.reduceEqDiff, Nat.reduceAdd, Nat.reduceSub, reduceIte, reduceCtorEq, Nat.reduceBEq, Nat.reduceLT, decide_true])
        | (with_reducible refine onI_bare ?_ ?_; focus (simp only [InR]; omega))
        | (refine execG_split (fun h => ?_) (fun h => ?_) <;> simp only [h])
        | (refine execC_split (fun h => ?_) (fun h => ?_) <;> (try simp only [h]))
        | (refine onPick_split (fun h => ?_) (fun h => ?_) <;> (try simp only [h])))
    · have : v.any (fun x => decide (n = x)) = true := List.any_eq_true.2 ⟨r, List.mem_of_getElem? hr, h⟩
      rw [this]
    · refine next_range (weak_of _ rfl ⟨⟨rfl, rfl⟩, ⟨rfl, rfl⟩, ⟨rfl, rfl⟩, trivial⟩) hlt fun j s hj hs => ?_
      by_cases e : j = i
      · subst e; rw [hr] at hs; injection hs with hs; rw [← hs]; exact h
      · exact hinv j s (by omega) hs
  · intro hinv hd
    have : v.any (fun x => decide (n = x)) = false := by
      rw [List.any_eq_false]
      intro x hx
      obtain ⟨j, hj⟩ := List.getElem?_of_mem hx
      simp [hinv j x (lt_of_get hj) hj]
    rw [this]
    repeat' (first
        | (simp only [dl_len, hd, ↓wA, ↓wC, wB, frzBE, frzBS, Nat.reduceEqDiff, Nat.reduceAdd, Nat.reduceSub, reduceIte, reduceCtorEq, Nat.reduceBEq, Nat.reduceLT, decide_true])
        | (refine execG_split (fun h => ?_) (fun h => ?_) <;> simp only [h])
        | (refine execC_split (fun h => ?_) (fun h => ?_) <;> (try simp only [h]))
        | (refine onPick_split (fun h => ?_) (fun h => ?_) <;> (try simp only [h])))
end Go.Pe.Try
