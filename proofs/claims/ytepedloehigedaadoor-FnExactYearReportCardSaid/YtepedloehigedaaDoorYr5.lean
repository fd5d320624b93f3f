/- Valid rows: both the model's and the program's. -/
import Derived.Test.YtepedloehigedaaDoorYr4
set_option maxRecDepth 100000
set_option maxHeartbeats 4000000
set_option linter.all false
namespace Go.Pe.Tryd
open Go.Proofs.Tryd
def okFrom : Int → Option Int → List Row → Bool
  | _, _, [] => true
  | rest, prev, r :: rs => r.ok && ((match prev with
    | none => true
    | some y => decide (y < r.y)) && (decide (0 ≤ rest + r.m - r.gone) && okFrom (rest + r.m - r.gone) (some r.y) rs))
def good (stock : Int) (xs : List Row) : Bool := isCount stock && (decide (xs.length ≤ 10) && okFrom stock none xs)
def prevY (xs : List Row) (i : Nat) : Option Int := if i = 0 then none else (xs[i - 1]?).map Row.y
theorem drop_get {α : Type} {xs : List α} {i : Nat} {a : α} (h : xs[i]? = some a) : xs.drop i = a :: xs.drop (i + 1) := by
  have hi := lt_of_get h
  rw [List.drop_eq_getElem_cons hi]
  rw [List.getElem?_eq_getElem hi] at h
  injection h with h
  rw [h]
theorem count_of {n : Int} (h : isCount n = true) : 0 ≤ n ∧ n ≤ 9999 := by
  simp only [isCount, within, Bool.and_eq_true, decide_eq_true_eq] at h
  exact h
theorem l26Good_fn (stock : Int) (xs : List Row) (hs : InR .i64 stock) (hlen : xs.length ≤ 1048576) : Fn prog 29 [.int .i64 stock, .sl false 5 (rowsD xs)] (fun rs => rs = [.bool (good stock xs)]) := by
  refine Fn_of' (fn := f29) (by exact func29) c29 r29 (n := 60) (by rfl) (rv := [.tmp 4]) (by rfl) (by simp) ?_
  unfold m29
  try simp only [↓wA, ↓wC, wB, Nat.reduceEqDiff, Nat.reduceAdd, Nat.reduceSub, reduceIte, reduceCtorEq, Nat.reduceBEq, Nat.reduceLT, decide_true]
  refine exec_loop (fun p : Nat × Int => ⟨[(0, .d (.int .i64 stock)), (1, .d (.sl false 5 (rowsD xs))), (5, .d (.int .i64 p.2)), (6, .d (.int .i64 p.1))], []⟩)
    (fun p => p.1 ≤ xs.length ∧ InR .i64 p.2 ∧ (isCount stock = true → 0 ≤ p.2 ∧ p.2 ≤ 9999 * (p.1 + 1) ∧ okFrom stock none xs = okFrom p.2 (prevY xs p.1) (xs.drop p.1))) (fun p => xs.length - p.1) (0, stock)
    (weak_of [] rfl ⟨⟨rfl, rfl⟩, ⟨rfl, rfl⟩, ⟨rfl, rfl⟩, ⟨rfl, rfl⟩, trivial⟩) ⟨Nat.zero_le _, hs, fun h => ⟨(count_of h).1, by have := (count_of h).2; omega, by simp [prevY]⟩⟩ ?_
  rintro ⟨i, rest⟩ ⟨hi, hr1, hinv⟩
  by_cases hlt : i < xs.length
  · obtain ⟨r, hr⟩ := get_lt hlt
    have hd : decide ((i : Int) < (xs.length : Int)) = true := by simp; omega
    have h0 : (0 : Int) ≤ (i : Int) := by omega
    have hdrop := drop_get hr
    have hF : (isCount stock = true → okFrom rest (prevY xs i) (r :: xs.drop (i + 1)) = false) → good stock xs = false := by
      intro h
      cases hc : isCount stock with
      | false => simp [good, hc]
      | true =>
        have e := (hinv hc).2.2
        simp only at e
        rw [hdrop, h hc] at e
        simp [good, hc, e]
    try simp only [dl_len, hd, dl_nth, Int.toNat_natCast, hr, Option.map_some, ↓rd_row, h0, onC_true, ↓wA, ↓wC, wB, Nat.reduceEqDiff, Nat.reduceAdd, Nat.reduceSub, reduceIte, reduceCtorEq, Nat.reduceBEq, Nat.reduceLT, decide_true]
    refine callP_det (l26One_fn r) rfl rfl ?_
    try simp only [↓wA, ↓wC, wB, Nat.reduceEqDiff, Nat.reduceAdd, Nat.reduceSub, reduceIte, reduceCtorEq, Nat.reduceBEq, Nat.reduceLT, decide_true]
    cases hok : r.ok with
    | false =>
      try simp only [↓wA, ↓wC, wB, Nat.reduceEqDiff, Nat.reduceAdd, Nat.reduceSub, reduceIte, reduceCtorEq, Nat.reduceBEq, Nat.reduceLT, decide_true]
      rw [hF fun hc => by simp [okFrom, hok]]
    | true =>
      have hb := ok_bounds hok
      have step : (prevY xs i = none ∨ ∃ y, prevY xs i = some y ∧ y < r.y) → ∀ m1 m2 : Int, InR .i64 m2 → (InR .i64 (rest + r.m) → m1 = rest + r.m) → (InR .i64 (m1 - r.gone) → m2 = m1 - r.gone) →
          (m2 < 0 → good stock xs = false) ∧ (¬ m2 < 0 → (isCount stock = true → 0 ≤ m2 ∧ m2 ≤ 9999 * (((i + 1 : Nat) : Int) + 1) ∧ okFrom stock none xs = okFrom m2 (prevY xs (i + 1)) (xs.drop (i + 1)))) := by
        intro hp m1 m2 hm2 e1 e2
        have hg : r.gone = r.k + r.x + r.g := rfl
        have key : isCount stock = true → m2 = rest + r.m - r.gone := by
          intro hc
          have hv := hinv hc
          simp only at hv
          have h1 := e1 (by simp only [InR]; omega)
          have h2 := e2 (by simp only [InR]; omega)
          omega
        have hpm : (match prevY xs i with
            | none => true
            | some y => decide (y < r.y)) = true := by
          rcases hp with hp | ⟨y, hp, hy⟩
          · rw [hp]
          · rw [hp]; simpa using hy
        refine ⟨fun hneg => hF fun hc => ?_, fun hpos hc => ?_⟩
        · have := key hc
          simp only [okFrom, hpm]
          simp
          intro _ h3
          omega
        · have hk := key hc
          have hv := hinv hc
          simp only at hv
          refine ⟨by omega, by omega, ?_⟩
          rw [hv.2.2, hdrop, hk]
          have h3 : decide (0 ≤ rest + r.m - r.gone) = true := by simp; omega
          simp only [okFrom, hok, hpm, h3, Bool.true_and]
          simp [prevY, hr]
      by_cases hi0 : i = 0
      · subst hi0
        have hg0 : decide ((0 : Int) < ((0 : Nat) : Int)) = false := by simp
        try simp only [hg0, dl_len, hd, dl_nth, Int.toNat_natCast, hr, Option.map_some, ↓rd_row, ↓fa_row1, h0, onC_true, ↓wA, ↓wC, wB, Nat.reduceEqDiff, Nat.reduceAdd, Nat.reduceSub, reduceIte, reduceCtorEq, Nat.reduceBEq, Nat.reduceLT, decide_true]
        refine onI_any fun m1 hm1 e1 => ?_
        try simp only [dl_len, hd, dl_nth, Int.toNat_natCast, hr, Option.map_some, ↓rd_row, h0, onC_true, ↓wA, ↓wC, wB, Nat.reduceEqDiff, Nat.reduceAdd, Nat.reduceSub, reduceIte, reduceCtorEq, Nat.reduceBEq, Nat.reduceLT, decide_true]
        refine callP_det (l26Gone_fn r hok) rfl rfl ?_
        try simp only [↓wA, ↓wC, wB, Nat.reduceEqDiff, Nat.reduceAdd, Nat.reduceSub, reduceIte, reduceCtorEq, Nat.reduceBEq, Nat.reduceLT, decide_true]
        refine onI_any fun m2 hm2 e2 => ?_
        have hst := step (.inl (by simp [prevY])) m1 m2 hm2 e1 e2
        try simp only [↓wA, ↓wC, wB, Nat.reduceEqDiff, Nat.reduceAdd, Nat.reduceSub, reduceIte, reduceCtorEq, Nat.reduceBEq, Nat.reduceLT, decide_true]
        refine execC_split (fun h => ?_) (fun h => ?_) <;> try simp only [↓wA, ↓wC, wB, Nat.reduceEqDiff, Nat.reduceAdd, Nat.reduceSub, reduceIte, reduceCtorEq, Nat.reduceBEq, Nat.reduceLT, decide_true]
        · rw [hst.1 (by simpa using h)]
        · refine onI_bare (by simp only [InR]; omega) ?_
          exact ⟨(0 + 1, m2), weak_of [] rfl ⟨⟨rfl, rfl⟩, ⟨rfl, rfl⟩, ⟨rfl, rfl⟩, ⟨rfl, rfl⟩, trivial⟩, ⟨by omega, hm2, hst.2 (by simpa using h)⟩, by simp only; omega⟩
      · obtain ⟨q, hq⟩ := get_lt (show i - 1 < xs.length by omega)
        have hg0 : decide ((0 : Int) < (i : Int)) = true := by simp; omega
        have hq' : xs[((i : Int) - 1).toNat]? = some q := by rw [show ((i : Int) - 1).toNat = i - 1 by omega]; exact hq
        have h1 : (0 : Int) ≤ (i : Int) - 1 := by omega
        try simp only [hg0, dl_len, hd, dl_nth, Int.toNat_natCast, hr, Option.map_some, ↓rd_row, ↓fa_row0, h0, onC_true, ↓wA, ↓wC, wB, Nat.reduceEqDiff, Nat.reduceAdd, Nat.reduceSub, reduceIte, reduceCtorEq, Nat.reduceBEq, Nat.reduceLT, decide_true]
        refine onI_bare (by simp only [InR]; omega) ?_
        try simp only [hg0, dl_len, hd, dl_nth, Int.toNat_natCast, hr, hq', h1, Option.map_some, ↓rd_row, ↓fa_row0, h0, onC_true, ↓wA, ↓wC, wB, Nat.reduceEqDiff, Nat.reduceAdd, Nat.reduceSub, reduceIte, reduceCtorEq, Nat.reduceBEq, Nat.reduceLT, decide_true]
        refine execC_split (fun h => ?_) (fun h => ?_) <;> try simp only [dl_len, hd, dl_nth, Int.toNat_natCast, hr, Option.map_some, ↓rd_row, ↓fa_row1, h0, onC_true, ↓wA, ↓wC, wB, Nat.reduceEqDiff, Nat.reduceAdd, Nat.reduceSub, reduceIte, reduceCtorEq, Nat.reduceBEq, Nat.reduceLT, decide_true]
        · have hle : ¬ q.y < r.y := by simp at h; omega
          rw [hF fun hc => by simp [okFrom, prevY, hi0, hq, hle]]
        · refine onI_any fun m1 hm1 e1 => ?_
          try simp only [dl_len, hd, dl_nth, Int.toNat_natCast, hr, Option.map_some, ↓rd_row, h0, onC_true, ↓wA, ↓wC, wB, Nat.reduceEqDiff, Nat.reduceAdd, Nat.reduceSub, reduceIte, reduceCtorEq, Nat.reduceBEq, Nat.reduceLT, decide_true]
          refine callP_det (l26Gone_fn r hok) rfl rfl ?_
          try simp only [↓wA, ↓wC, wB, Nat.reduceEqDiff, Nat.reduceAdd, Nat.reduceSub, reduceIte, reduceCtorEq, Nat.reduceBEq, Nat.reduceLT, decide_true]
          refine onI_any fun m2 hm2 e2 => ?_
          have hst := step (.inr ⟨q.y, by simp [prevY, hi0, hq], by simp at h; omega⟩) m1 m2 hm2 e1 e2
          try simp only [↓wA, ↓wC, wB, Nat.reduceEqDiff, Nat.reduceAdd, Nat.reduceSub, reduceIte, reduceCtorEq, Nat.reduceBEq, Nat.reduceLT, decide_true]
          refine execC_split (fun h => ?_) (fun h => ?_) <;> try simp only [↓wA, ↓wC, wB, Nat.reduceEqDiff, Nat.reduceAdd, Nat.reduceSub, reduceIte, reduceCtorEq, Nat.reduceBEq, Nat.reduceLT, decide_true]
          · rw [hst.1 (by simpa using h)]
          · refine onI_bare (by simp only [InR]; omega) ?_
            exact ⟨(i + 1, m2), weak_of [] rfl ⟨⟨rfl, rfl⟩, ⟨rfl, rfl⟩, ⟨rfl, rfl⟩, ⟨rfl, rfl⟩, trivial⟩, ⟨by omega, hm2, hst.2 (by simpa using h)⟩, by simp only; omega⟩
  · have hd : decide ((i : Int) < (xs.length : Int)) = false := by simp; omega
    have e : i = xs.length := by omega
    have hG : good stock xs = (isCount stock && decide ((xs.length : Int) ≤ 10)) := by
      cases hc : isCount stock with
      | false => simp [good, hc]
      | true =>
        have := (hinv hc).2.2
        simp only [e, List.drop_length, okFrom] at this
        simp only [good, hc, this, Bool.and_true, Bool.true_and]
        congr 1; apply propext; omega
    rw [hG]
    try simp only [dl_len, hd, ↓wA, ↓wC, wB, Nat.reduceEqDiff, Nat.reduceAdd, Nat.reduceSub, reduceIte, reduceCtorEq, Nat.reduceBEq, Nat.reduceLT, decide_true]
    refine call_det (l26Count_fn _) rfl rfl ?_
    repeat' (first
        | (simp only [dl_len, ↓wA, ↓wC, wB, Nat.reduceEqDiff, Nat.reduceAdd, Nat.reduceSub, reduceIte, reduceCtorEq, Nat.reduceBEq, Nat.reduceLT, decide_true])
        | (refine execG_split (fun h => ?_) (fun h => ?_) <;> simp only [h])
        | (refine execC_split (fun h => ?_) (fun h => ?_) <;> (try simp only [h]))
        | (refine onPick_split (fun h => ?_) (fun h => ?_) <;> (try simp only [h])))
    all_goals simp_all
end Go.Pe.Tryd
