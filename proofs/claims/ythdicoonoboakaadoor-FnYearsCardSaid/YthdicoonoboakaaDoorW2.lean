/- Valid rows: both the model's and the program's; The rests after the rows: the program's; The law of AreYearRows, walked; The rests after the rows: the model's; The report of the years, walked; What draws: a cursor over bytes; What draws: a number below a bound; What draws: once in n times; one of some numbers; What draws: a row of a year, rows; What draws: rows of years; the draws themselves; The records at the start of a text: the program's road, the reference's; The reference's road through a text of records; What a valid log is; the laws of RecoverLog, IsValidLog, SyncLog; The law of AppendRecord; The law of LogRecords: marks on records; The law of CrashLog: what of a log survives; Logs in plain lists: what is appended, cut off, torn; What draws: texts, records of a log, logs; The law of YearsToClear, walked; The largest rest; The law of LargestRest, walked; The share of the destroyed; Marks, and what holds them; What the laws of years compare by, walked; Plain laws of years: what is left grows by what is made; a line tells its row; the lines of a report; What draws: a row of a year, its line -/
import Derived.Test.YthdicoonoboakaaDoorW1
import Derived.Test.YthdicoonoboakaaDoorPeD
import Derived.Test.YthdicoonoboakaaDoorMc1
import Derived.Test.YthdicoonoboakaaDoorMc2
set_option maxRecDepth 100000
set_option maxHeartbeats 4000000
set_option linter.all false
namespace Go.Pe.Tryd
open Nat (reduceEqDiff reduceAdd reduceSub reduceLT)
open Go.Proofs.Tryd
def okFrom : Int → Option Int → List Row → Bool
  | _, _, [] => true
  | rest, prev, r :: rs => r.ok && ((match prev with
    | none => true
    | some y => decide (y < r.y)) && (decide (0 ≤ rest + r.m - r.gone) && okFrom (rest + r.m - r.gone) (some r.y) rs))
def good (stock : Int) (xs : List Row) : Bool := isCount stock && (decide (xs.length ≤ 10) && okFrom stock none xs)
def prevY (xs : List Row) (i : Nat) : Option Int := if i = 0 then none else (xs[i - 1]?).map Row.y
theorem drop_get {α : Type} {xs : List α} {i : Nat} {a : α} (h : xs[i]? = some a) : xs.drop i = a :: xs.drop (i + 1) := by
  have hi := lt_of_get h
  rw [List.drop_eq_getElem_cons hi]
  rw [List.getElem?_eq_getElem hi] at h
  injection h with h
  rw [h]
theorem count_of {n : Int} (h : isCount n = true) : 0 ≤ n ∧ n ≤ 9999 := by
  simp only [isCount, within, Bool.and_eq_true, decide_eq_true_eq] at h
  exact h
theorem l26Good_fn (stock : Int) (xs : List Row) (hs : InR .i64 stock) (hlen : xs.length ≤ 1048576) : Fn prog 21 [.int .i64 stock, .sl false 5 (rowsD xs)] (fun rs => rs = [.bool (good stock xs)]) := by
  refine Fn_of' (fn := f21) (by exact func21) c21 r21 (n := 60) (by rfl) (rv := [.tmp 4]) (by rfl) (by simp) ?_
  unfold m21
  try simp only [wQ]
  try simp only [↓wA, ↓wC, wB, frzBE, frzBS, reduceEqDiff, reduceAdd, reduceSub, reduceIte, reduceCtorEq, Nat.reduceBEq, reduceLT]
  refine exec_loop (fun p : Nat × Int => ⟨[(0, .d (.int .i64 stock)), (1, .d (.sl false 5 (rowsD xs))), (5, .d (.int .i64 p.2)), (6, .d (.int .i64 p.1))], []⟩)
    (fun p => p.1 ≤ xs.length ∧ InR .i64 p.2 ∧ (isCount stock = true → 0 ≤ p.2 ∧ p.2 ≤ 9999 * (p.1 + 1) ∧ okFrom stock none xs = okFrom p.2 (prevY xs p.1) (xs.drop p.1))) (fun p => xs.length - p.1) (0, stock)
    (weak_of [] rfl ⟨⟨rfl, rfl⟩, ⟨rfl, rfl⟩, ⟨rfl, rfl⟩, ⟨rfl, rfl⟩, trivial⟩) ⟨Nat.zero_le _, hs, fun h => ⟨(count_of h).1, by have := (count_of h).2; omega, by simp [prevY]⟩⟩ ?_
  rintro ⟨i, rest⟩ ⟨hi, hr1, hinv⟩
  by_cases hlt : i < xs.length
  · obtain ⟨r, hr⟩ := get_lt hlt
    have hd : decide ((i : Int) < (xs.length : Int)) = true := by simp; omega
    have h0 : (0 : Int) ≤ (i : Int) := by omega
    have hdrop := drop_get hr
    have hF : (isCount stock = true → okFrom rest (prevY xs i) (r :: xs.drop (i + 1)) = false) → good stock xs = false := by
      intro h
      cases hc : isCount stock with
      | false => simp [good, hc]
      | true =>
        have e := (hinv hc).2.2
        simp only at e
        rw [hdrop, h hc] at e
        simp [good, hc, e]
    try simp only [dl_len, hd, dl_nth, Int.toNat_natCast, hr, Option.map_some, ↓rd_row, h0, onC_true, ↓wA, ↓wC, wB, frzBE, frzBS, reduceEqDiff, reduceAdd, reduceSub, reduceIte, reduceCtorEq, Nat.reduceBEq, reduceLT]
    refine callP_det (l26One_fn r) rfl rfl ?_
    try simp only [↓wA, ↓wC, wB, frzBE, frzBS, reduceEqDiff, reduceAdd, reduceSub, reduceIte, reduceCtorEq, Nat.reduceBEq, reduceLT]
    cases hok : r.ok with
    | false =>
      try simp only [↓wA, ↓wC, wB, frzBE, frzBS, reduceEqDiff, reduceAdd, reduceSub, reduceIte, reduceCtorEq, Nat.reduceBEq, reduceLT]
      rw [hF fun hc => by simp [okFrom, hok]]
    | true =>
      have hb := ok_bounds hok
      have step : (prevY xs i = none ∨ ∃ y, prevY xs i = some y ∧ y < r.y) → ∀ m1 m2 : Int, InR .i64 m2 → (InR .i64 (rest + r.m) → m1 = rest + r.m) → (InR .i64 (m1 - r.gone) → m2 = m1 - r.gone) →
          (m2 < 0 → good stock xs = false) ∧ (¬ m2 < 0 → (isCount stock = true → 0 ≤ m2 ∧ m2 ≤ 9999 * (((i + 1 : Nat) : Int) + 1) ∧ okFrom stock none xs = okFrom m2 (prevY xs (i + 1)) (xs.drop (i + 1)))) := by
        intro hp m1 m2 hm2 e1 e2
        have hg : r.gone = r.k + r.x + r.g := rfl
        have key : isCount stock = true → m2 = rest + r.m - r.gone := by
          intro hc
          have hv := hinv hc
          simp only at hv
          have h1 := e1 (by simp only [InR]; omega)
          have h2 := e2 (by simp only [InR]; omega)
          omega
        have hpm : (match prevY xs i with
            | none => true
            | some y => decide (y < r.y)) = true := by
          rcases hp with hp | ⟨y, hp, hy⟩
          · rw [hp]
          · rw [hp]; simpa using hy
        refine ⟨fun hneg => hF fun hc => ?_, fun hpos hc => ?_⟩
        · have := key hc
          simp only [okFrom, hpm]
          simp
          intro _ h3
          omega
        · have hk := key hc
          have hv := hinv hc
          simp only at hv
          refine ⟨by omega, by omega, ?_⟩
          rw [hv.2.2, hdrop, hk]
          have h3 : decide (0 ≤ rest + r.m - r.gone) = true := by simp; omega
          simp only [okFrom, hok, hpm, h3, Bool.true_and]
          simp [prevY, hr]
      by_cases hi0 : i = 0
      · subst hi0
        have hg0 : decide ((0 : Int) < ((0 : Nat) : Int)) = false := by simp
        try simp only [hg0, dl_len, hd, dl_nth, Int.toNat_natCast, hr, Option.map_some, ↓rd_row, ↓fa_row1, h0, onC_true, ↓wA, ↓wC, wB, frzBE, frzBS, reduceEqDiff, reduceAdd, reduceSub, reduceIte, reduceCtorEq, Nat.reduceBEq, reduceLT]
        refine onI_any fun m1 hm1 e1 => ?_
        try simp only [dl_len, hd, dl_nth, Int.toNat_natCast, hr, Option.map_some, ↓rd_row, h0, onC_true, ↓wA, ↓wC, wB, frzBE, frzBS, reduceEqDiff, reduceAdd, reduceSub, reduceIte, reduceCtorEq, Nat.reduceBEq, reduceLT]
        refine callP_det (l26Gone_fn r hok) rfl rfl ?_
        try simp only [↓wA, ↓wC, wB, frzBE, frzBS, reduceEqDiff, reduceAdd, reduceSub, reduceIte, reduceCtorEq, Nat.reduceBEq, reduceLT]
        refine onI_any fun m2 hm2 e2 => ?_
        have hst := step (.inl (by simp [prevY])) m1 m2 hm2 e1 e2
        try simp only [↓wA, ↓wC, wB, frzBE, frzBS, reduceEqDiff, reduceAdd, reduceSub, reduceIte, reduceCtorEq, Nat.reduceBEq, reduceLT]
        refine execC_split (fun h => ?_) (fun h => ?_) <;> try simp only [↓wA, ↓wC, wB, frzBE, frzBS, reduceEqDiff, reduceAdd, reduceSub, reduceIte, reduceCtorEq, Nat.reduceBEq, reduceLT]
        · rw [hst.1 (by simpa using h)]
        · refine onI_bare (by simp only [InR]; omega) ?_
          exact ⟨(0 + 1, m2), weak_of [] rfl ⟨⟨rfl, rfl⟩, ⟨rfl, rfl⟩, ⟨rfl, rfl⟩, ⟨rfl, rfl⟩, trivial⟩, ⟨by omega, hm2, hst.2 (by simpa using h)⟩, by simp only; omega⟩
      · obtain ⟨q, hq⟩ := get_lt (show i - 1 < xs.length by omega)
        have hg0 : decide ((0 : Int) < (i : Int)) = true := by simp; omega
        have hq' : xs[((i : Int) - 1).toNat]? = some q := by rw [show ((i : Int) - 1).toNat = i - 1 by omega]; exact hq
        have h1 : (0 : Int) ≤ (i : Int) - 1 := by omega
        try simp only [hg0, dl_len, hd, dl_nth, Int.toNat_natCast, hr, Option.map_some, ↓rd_row, ↓fa_row0, h0, onC_true, ↓wA, ↓wC, wB, frzBE, frzBS, reduceEqDiff, reduceAdd, reduceSub, reduceIte, reduceCtorEq, Nat.reduceBEq, reduceLT]
        refine onI_bare (by simp only [InR]; omega) ?_
        try simp only [hg0, dl_len, hd, dl_nth, Int.toNat_natCast, hr, hq', h1, Option.map_some, ↓rd_row, ↓fa_row0, h0, onC_true, ↓wA, ↓wC, wB, frzBE, frzBS, reduceEqDiff, reduceAdd, reduceSub, reduceIte, reduceCtorEq, Nat.reduceBEq, reduceLT]
        refine execC_split (fun h => ?_) (fun h => ?_) <;> try simp only [dl_len, hd, dl_nth, Int.toNat_natCast, hr, Option.map_some, ↓rd_row, ↓fa_row1, h0, onC_true, ↓wA, ↓wC, wB, frzBE, frzBS, reduceEqDiff, reduceAdd, reduceSub, reduceIte, reduceCtorEq, Nat.reduceBEq, reduceLT]
        · have hle : ¬ q.y < r.y := by simp at h; omega
          rw [hF fun hc => by simp [okFrom, prevY, hi0, hq, hle]]
        · refine onI_any fun m1 hm1 e1 => ?_
          try simp only [dl_len, hd, dl_nth, Int.toNat_natCast, hr, Option.map_some, ↓rd_row, h0, onC_true, ↓wA, ↓wC, wB, frzBE, frzBS, reduceEqDiff, reduceAdd, reduceSub, reduceIte, reduceCtorEq, Nat.reduceBEq, reduceLT]
          refine callP_det (l26Gone_fn r hok) rfl rfl ?_
          try simp only [↓wA, ↓wC, wB, frzBE, frzBS, reduceEqDiff, reduceAdd, reduceSub, reduceIte, reduceCtorEq, Nat.reduceBEq, reduceLT]
          refine onI_any fun m2 hm2 e2 => ?_
          have hst := step (.inr ⟨q.y, by simp [prevY, hi0, hq], by simp at h; omega⟩) m1 m2 hm2 e1 e2
          try simp only [↓wA, ↓wC, wB, frzBE, frzBS, reduceEqDiff, reduceAdd, reduceSub, reduceIte, reduceCtorEq, Nat.reduceBEq, reduceLT]
          refine execC_split (fun h => ?_) (fun h => ?_) <;> try simp only [↓wA, ↓wC, wB, frzBE, frzBS, reduceEqDiff, reduceAdd, reduceSub, reduceIte, reduceCtorEq, Nat.reduceBEq, reduceLT]
          · rw [hst.1 (by simpa using h)]
          · refine onI_bare (by simp only [InR]; omega) ?_
            exact ⟨(i + 1, m2), weak_of [] rfl ⟨⟨rfl, rfl⟩, ⟨rfl, rfl⟩, ⟨rfl, rfl⟩, ⟨rfl, rfl⟩, trivial⟩, ⟨by omega, hm2, hst.2 (by simpa using h)⟩, by simp only; omega⟩
  · have hd : decide ((i : Int) < (xs.length : Int)) = false := by simp; omega
    have e : i = xs.length := by omega
    have hG : good stock xs = (isCount stock && decide ((xs.length : Int) ≤ 10)) := by
      cases hc : isCount stock with
      | false => simp [good, hc]
      | true =>
        have := (hinv hc).2.2
        simp only [e, List.drop_length, okFrom] at this
        simp only [good, hc, this, Bool.and_true, Bool.true_and]
        congr 1; apply propext; omega
    rw [hG]
    try simp only [dl_len, hd, ↓wA, ↓wC, wB, frzBE, frzBS, reduceEqDiff, reduceAdd, reduceSub, reduceIte, reduceCtorEq, Nat.reduceBEq, reduceLT]
    refine call_det (l26Count_fn _) rfl rfl ?_
    repeat' (first | (simp only [dl_len, ↓wA, ↓wC, wB, frzBE, frzBS, reduceEqDiff, reduceAdd, reduceSub, reduceIte, reduceCtorEq, Nat.reduceBEq, reduceLT]) | ((first | apply execG_split | apply execC_split | apply onPick_split) <;> intro h <;> try simp only [h]))
    all_goals simp_all
end Go.Pe.Tryd
set_option maxRecDepth 100000
set_option maxHeartbeats 4000000
set_option linter.all false
namespace Go.Pe.Tryd
open Nat (reduceEqDiff reduceAdd reduceSub reduceLT)
open Go.Proofs.Tryd
def rests : Int → List Row → List Int
  | _, [] => []
  | s, r :: rs => (s + r.m - r.gone) :: rests (s + r.m - r.gone) rs
def restsR (stock : Int) (xs : List Row) : List D := if good stock xs then [.sl true 1 (dl iD (rests stock xs)), .bool true] else [.sl true 1 (dl iD []), .bool false]
theorem restsAfter_fn (stock : Int) (xs : List Row) (hlen : xs.length ≤ 1048576) : Fn prog 20 [.int .i64 stock, .sl false 5 (rowsD xs)] (fun rs => rs = restsR stock xs) := by
  refine Fn_of' (fn := f20) (by exact func20) c20 r20 (n := 57) (by rfl) (rv := [.tmp 4, .tmp 5]) (by rfl) (by simp) ?_
  unfold m20
  try simp only [wQ]
  try simp only [↓wA, ↓wC, wB, frzBE, frzBS, reduceEqDiff, reduceAdd, reduceSub, reduceIte, reduceCtorEq, Nat.reduceBEq, reduceLT]
  refine call_det (isCount_fn _) rfl rfl ?_
  try simp only [↓wA, ↓wC, wB, frzBE, frzBS, reduceEqDiff, reduceAdd, reduceSub, reduceIte, reduceCtorEq, Nat.reduceBEq, reduceLT]
  cases hc : isCount stock with
  | false =>
    try simp only [↓wA, ↓wC, wB, frzBE, frzBS, reduceEqDiff, reduceAdd, reduceSub, reduceIte, reduceCtorEq, Nat.reduceBEq, reduceLT]
    refine take_nil 1 ?_
    try simp only [↓wA, ↓wC, wB, frzBE, frzBS, reduceEqDiff, reduceAdd, reduceSub, reduceIte, reduceCtorEq, Nat.reduceBEq, reduceLT]
    simp [restsR, good, hc, dl, ofL]
  | true =>
    by_cases hn : xs.length ≤ 10
    · have hd10 : decide ((10 : Int) < (xs.length : Int)) = false := by simp; omega
      try simp only [dl_len, hd10, ↓wA, ↓wC, wB, frzBE, frzBS, reduceEqDiff, reduceAdd, reduceSub, reduceIte, reduceCtorEq, Nat.reduceBEq, reduceLT]
      have hbs := count_of hc
      have hgood : good stock xs = okFrom stock none xs := by simp [good, hc, hn]
      refine exec_loopN (ts := [(6, 1)]) (fun p : Nat × Int × List Int => ⟨[(0, .d (.int .i64 p.2.1)), (1, .d (.sl false 5 (rowsD xs))), (6, .own 0), (17, .d (.sl false 5 (rowsD xs))), (18, .d (.int .i64 xs.length)), (19, .d (.int .i64 p.1))], [.val (.sl true 1 (dl iD p.2.2))]⟩)
        (fun p => p.1 ≤ xs.length ∧ p.2.2.length = p.1 ∧ 0 ≤ p.2.1 ∧ p.2.1 ≤ 9999 * (p.1 + 1) ∧ okFrom stock none xs = okFrom p.2.1 (prevY xs p.1) (xs.drop p.1) ∧ rests stock xs = p.2.2 ++ rests p.2.1 (xs.drop p.1)) (fun p => xs.length - p.1) (0, stock, [])
        ⟨rfl, trivial⟩ (weak_of [] rfl ⟨⟨rfl, rfl⟩, ⟨rfl, rfl⟩, ⟨rfl, rfl⟩, ⟨rfl, rfl⟩, ⟨rfl, rfl⟩, ⟨rfl, rfl⟩, trivial⟩) ⟨Nat.zero_le _, rfl, hbs.1, by have := hbs.2; simp only; omega, by simp [prevY], by simp⟩ ?_
      rintro ⟨i, st, out⟩ ⟨hi, hout, hs0, hs1, hok, hre⟩
      simp only at hi hout hs0 hs1 hok hre
      by_cases hlt : i < xs.length
      · obtain ⟨r, hr⟩ := get_lt hlt
        have hd : decide ((i : Int) < (xs.length : Int)) = true := by simp; omega
        have h0 : (0 : Int) ≤ (i : Int) := by omega
        have hdrop := drop_get hr
        rw [hdrop] at hok hre
        try simp only [dl_len, hd, dl_nth, Int.toNat_natCast, hr, Option.map_some, ↓rd_row, h0, onC_true, isV_row, size_row, ↓wA, ↓wC, wB, frzBE, frzBS, reduceEqDiff, reduceAdd, reduceSub, reduceIte, reduceCtorEq, Nat.reduceBEq, reduceLT]
        refine callP_det (isYearRow_fn r) rfl rfl ?_
        try simp only [↓wA, ↓wC, wB, frzBE, frzBS, reduceEqDiff, reduceAdd, reduceSub, reduceIte, reduceCtorEq, Nat.reduceBEq, reduceLT]
        cases hrk : r.ok with
        | false =>
          have hf : good stock xs = false := by rw [hgood, hok]; simp [okFrom, hrk]
          try simp only [↓wA, ↓wC, wB, frzBE, frzBS, reduceEqDiff, reduceAdd, reduceSub, reduceIte, reduceCtorEq, Nat.reduceBEq, reduceLT]
          refine take_nil 1 ?_
          try simp only [↓wA, ↓wC, wB, frzBE, frzBS, reduceEqDiff, reduceAdd, reduceSub, reduceIte, reduceCtorEq, Nat.reduceBEq, reduceLT]
          simp [restsR, hf, dl, ofL]
        | true =>
          have hb := ok_bounds hrk
          have hg : r.gone = r.k + r.x + r.g := rfl
          have tail : (prevY xs i = none ∨ ∃ y, prevY xs i = some y ∧ y < r.y) → okFrom st (prevY xs i) (r :: xs.drop (i + 1)) = (decide (0 ≤ st + r.m - r.gone) && okFrom (st + r.m - r.gone) (some r.y) (xs.drop (i + 1))) := by
            intro hp
            rcases hp with hp | ⟨y, hp, hy⟩
            · simp [hp, okFrom, hrk]
            · simp [hp, okFrom, hrk, hy]
          have hpre : prevY xs (i + 1) = some r.y := by simp [prevY, hr]
          by_cases hi0 : i = 0
          · subst hi0
            have hg0 : decide ((0 : Int) < ((0 : Nat) : Int)) = false := by simp
            have hp : prevY xs 0 = none := by simp [prevY]
            have hp' := Or.inl (b := ∃ y, prevY xs 0 = some y ∧ y < r.y) hp
            try simp only [hg0, ↓wA, ↓wC, wB, frzBE, frzBS, reduceEqDiff, reduceAdd, reduceSub, reduceIte, reduceCtorEq, Nat.reduceBEq, reduceLT]
            try simp only [dl_len, hd, dl_nth, Int.toNat_natCast, hr, Option.map_some, ↓rd_row, h0, onC_true, Row.d, ↓wA, ↓wC, wB, frzBE, frzBS, reduceEqDiff, reduceAdd, reduceSub, reduceIte, reduceCtorEq, Nat.reduceBEq, reduceLT]
            refine callP_det (gone_fn r hrk) rfl rfl ?_
            try simp only [↓wA, ↓wC, wB, frzBE, frzBS, reduceEqDiff, reduceAdd, reduceSub, reduceIte, reduceCtorEq, Nat.reduceBEq, reduceLT]
            refine onI_bare (by simp only [InR]; omega) ?_
            try simp only [↓wA, ↓wC, wB, frzBE, frzBS, reduceEqDiff, reduceAdd, reduceSub, reduceIte, reduceCtorEq, Nat.reduceBEq, reduceLT]
            refine onI_bare (by simp only [InR]; omega) ?_
            try simp only [↓wA, ↓wC, wB, frzBE, frzBS, reduceEqDiff, reduceAdd, reduceSub, reduceIte, reduceCtorEq, Nat.reduceBEq, reduceLT]
            refine execC_split (fun h => ?_) (fun h => ?_)
            · have hf : good stock xs = false := by
                have h3 : ¬ 0 ≤ st + r.m - r.gone := by simp at h; omega
                rw [hgood, hok, tail hp', decide_eq_false h3]; rfl
              try simp only [↓wA, ↓wC, wB, frzBE, frzBS, reduceEqDiff, reduceAdd, reduceSub, reduceIte, reduceCtorEq, Nat.reduceBEq, reduceLT]
              refine take_nil 1 ?_
              try simp only [↓wA, ↓wC, wB, frzBE, frzBS, reduceEqDiff, reduceAdd, reduceSub, reduceIte, reduceCtorEq, Nat.reduceBEq, reduceLT]
              simp [restsR, hf, dl, ofL]
            · have h3 : 0 ≤ st + r.m - r.gone := by simp at h; omega
              have e1 : st + (r.m - r.gone) = st + r.m - r.gone := by omega
              try simp only [dl_len, e1, app_int, ↓wA, ↓wC, wB, frzBE, frzBS, reduceEqDiff, reduceAdd, reduceSub, reduceIte, reduceCtorEq, Nat.reduceBEq, reduceLT]
              refine onC_i (by first | omega | simp) ?_
              try refine onC_i (by omega) ?_
              try simp only [e1, app_int, ↓wA, ↓wC, wB, frzBE, frzBS, reduceEqDiff, reduceAdd, reduceSub, reduceIte, reduceCtorEq, Nat.reduceBEq, reduceLT]
              refine onI_bare (by simp only [InR]; omega) ?_
              refine ⟨(0 + 1, st + r.m - r.gone, out ++ [st + r.m - r.gone]), weak_of _ rfl ⟨⟨rfl, rfl⟩, ⟨rfl, rfl⟩, ⟨rfl, rfl⟩, ⟨rfl, rfl⟩, ⟨rfl, rfl⟩, ⟨rfl, rfl⟩, trivial⟩, ⟨by omega, by simp [hout], h3, by simp only; omega, ?_, ?_⟩, by simp only; omega⟩
              · rw [hok, tail hp', hpre, decide_eq_true h3]; rfl
              · rw [hre]; simp [rests]
          · obtain ⟨q, hq⟩ := get_lt (show i - 1 < xs.length by omega)
            have hg0 : decide ((0 : Int) < (i : Int)) = true := by simp; omega
            have hq' : xs[((i : Int) - 1).toNat]? = some q := by rw [show ((i : Int) - 1).toNat = i - 1 by omega]; exact hq
            have h1 : (0 : Int) ≤ (i : Int) - 1 := by omega
            have hp : prevY xs i = some q.y := by simp [prevY, hi0, hq]
            try simp only [hg0, ↓wA, ↓wC, wB, frzBE, frzBS, reduceEqDiff, reduceAdd, reduceSub, reduceIte, reduceCtorEq, Nat.reduceBEq, reduceLT]
            refine onI_bare (by simp only [InR]; omega) ?_
            try simp only [dl_nth, hq', h1, Option.map_some, ↓fa_row0, onC_true, Row.d, ↓wA, ↓wC, wB, frzBE, frzBS, reduceEqDiff, reduceAdd, reduceSub, reduceIte, reduceCtorEq, Nat.reduceBEq, reduceLT]
            refine execC_split (fun h => ?_) (fun h => ?_)
            · have hle : ¬ q.y < r.y := by simp at h; omega
              have hf : good stock xs = false := by rw [hgood, hok, hp]; simp [okFrom, hle]
              try simp only [↓wA, ↓wC, wB, frzBE, frzBS, reduceEqDiff, reduceAdd, reduceSub, reduceIte, reduceCtorEq, Nat.reduceBEq, reduceLT]
              refine take_nil 1 ?_
              try simp only [↓wA, ↓wC, wB, frzBE, frzBS, reduceEqDiff, reduceAdd, reduceSub, reduceIte, reduceCtorEq, Nat.reduceBEq, reduceLT]
              simp [restsR, hf, dl, ofL]
            have hp' : prevY xs i = none ∨ ∃ y, prevY xs i = some y ∧ y < r.y := .inr ⟨q.y, hp, by simp at h; omega⟩
            try simp only [dl_len, hd, dl_nth, Int.toNat_natCast, hr, Option.map_some, ↓rd_row, h0, onC_true, Row.d, ↓wA, ↓wC, wB, frzBE, frzBS, reduceEqDiff, reduceAdd, reduceSub, reduceIte, reduceCtorEq, Nat.reduceBEq, reduceLT]
            refine callP_det (gone_fn r hrk) rfl rfl ?_
            try simp only [↓wA, ↓wC, wB, frzBE, frzBS, reduceEqDiff, reduceAdd, reduceSub, reduceIte, reduceCtorEq, Nat.reduceBEq, reduceLT]
            refine onI_bare (by simp only [InR]; omega) ?_
            try simp only [↓wA, ↓wC, wB, frzBE, frzBS, reduceEqDiff, reduceAdd, reduceSub, reduceIte, reduceCtorEq, Nat.reduceBEq, reduceLT]
            refine onI_bare (by simp only [InR]; omega) ?_
            try simp only [↓wA, ↓wC, wB, frzBE, frzBS, reduceEqDiff, reduceAdd, reduceSub, reduceIte, reduceCtorEq, Nat.reduceBEq, reduceLT]
            refine execC_split (fun h => ?_) (fun h => ?_)
            · have hf : good stock xs = false := by
                have h3 : ¬ 0 ≤ st + r.m - r.gone := by simp at h; omega
                rw [hgood, hok, tail hp', decide_eq_false h3]; rfl
              try simp only [↓wA, ↓wC, wB, frzBE, frzBS, reduceEqDiff, reduceAdd, reduceSub, reduceIte, reduceCtorEq, Nat.reduceBEq, reduceLT]
              refine take_nil 1 ?_
              try simp only [↓wA, ↓wC, wB, frzBE, frzBS, reduceEqDiff, reduceAdd, reduceSub, reduceIte, reduceCtorEq, Nat.reduceBEq, reduceLT]
              simp [restsR, hf, dl, ofL]
            · have h3 : 0 ≤ st + r.m - r.gone := by simp at h; omega
              have e1 : st + (r.m - r.gone) = st + r.m - r.gone := by omega
              try simp only [dl_len, e1, app_int, ↓wA, ↓wC, wB, frzBE, frzBS, reduceEqDiff, reduceAdd, reduceSub, reduceIte, reduceCtorEq, Nat.reduceBEq, reduceLT]
              refine onC_i (by first | omega | simp) ?_
              try refine onC_i (by omega) ?_
              try simp only [e1, app_int, ↓wA, ↓wC, wB, frzBE, frzBS, reduceEqDiff, reduceAdd, reduceSub, reduceIte, reduceCtorEq, Nat.reduceBEq, reduceLT]
              refine onI_bare (by simp only [InR]; omega) ?_
              refine ⟨(i + 1, st + r.m - r.gone, out ++ [st + r.m - r.gone]), weak_of _ rfl ⟨⟨rfl, rfl⟩, ⟨rfl, rfl⟩, ⟨rfl, rfl⟩, ⟨rfl, rfl⟩, ⟨rfl, rfl⟩, ⟨rfl, rfl⟩, trivial⟩, ⟨by omega, by simp [hout], h3, by simp only; omega, ?_, ?_⟩, by simp only; omega⟩
              · rw [hok, tail hp', hpre, decide_eq_true h3]; rfl
              · rw [hre]; simp [rests]
      · have hd : decide ((i : Int) < (xs.length : Int)) = false := by simp; omega
        have e : i = xs.length := by omega
        have hg : good stock xs = true := by rw [hgood, hok, e, List.drop_length]; rfl
        have ho : rests stock xs = out := by rw [hre, e, List.drop_length]; simp [rests]
        try simp only [hd, ↓wA, ↓wC, wB, frzBE, frzBS, reduceEqDiff, reduceAdd, reduceSub, reduceIte, reduceCtorEq, Nat.reduceBEq, reduceLT]
        simp [restsR, hg, ho]
    · have hd10 : decide ((10 : Int) < (xs.length : Int)) = true := by simp; omega
      try simp only [dl_len, hd10, ↓wA, ↓wC, wB, frzBE, frzBS, reduceEqDiff, reduceAdd, reduceSub, reduceIte, reduceCtorEq, Nat.reduceBEq, reduceLT]
      refine take_nil 1 ?_
      try simp only [↓wA, ↓wC, wB, frzBE, frzBS, reduceEqDiff, reduceAdd, reduceSub, reduceIte, reduceCtorEq, Nat.reduceBEq, reduceLT]
      simp [restsR, good, hc, hn, dl, ofL]
end Go.Pe.Tryd
set_option maxRecDepth 100000
set_option maxHeartbeats 4000000
set_option linter.all false
namespace Go.Pe.Tryd
open Nat (reduceEqDiff reduceAdd reduceSub reduceLT)
open Go.Proofs.Tryd
theorem ints_allOwn (xs : List Int) : (dl iD xs).allOwn = true := dl_allOwn iD_allOwn xs
theorem rows_unown (xs : List Row) : (rowsD xs).unown = rowsD xs := dl_unown Row.unown xs
theorem rows_noOwn (xs : List Row) : (rowsD xs).noOwn = true := dl_noOwn Row.noOwn xs
theorem areYearRows_fn (stock : Int) (xs : List Row) (hlen : xs.length ≤ 1048576) : Fn prog 9 [.int .i64 stock, .sl false 5 (rowsD xs)] (fun rs => rs = [.bool (good stock xs)]) := by
  refine Fn_of' (fn := f9) (by exact func9) c9 r9 (n := 14) (by rfl) (rv := [.tmp 4]) (by rfl) (by simp) ?_
  unfold m9
  try simp only [wQ]
  try simp only [↓wA, ↓wC, wB, frzBE, frzBS, reduceEqDiff, reduceAdd, reduceSub, reduceIte, reduceCtorEq, Nat.reduceBEq, reduceLT]
  refine call_det (restsAfter_fn stock xs hlen) rfl rfl ?_
  cases hg : good stock xs with
  | true => simp only [restsR, hg, ints_noOwn, ↓wA, ↓wC, wB, frzBE, frzBS, reduceEqDiff, reduceAdd, reduceSub, reduceIte, reduceCtorEq, Nat.reduceBEq, reduceLT]
  | false => simp only [restsR, hg, ints_noOwn, ↓wA, ↓wC, wB, frzBE, frzBS, reduceEqDiff, reduceAdd, reduceSub, reduceIte, reduceCtorEq, Nat.reduceBEq, reduceLT]
end Go.Pe.Tryd
set_option maxRecDepth 100000
set_option maxHeartbeats 4000000
set_option linter.all false
namespace Go.Pe.Tryd
open Nat (reduceEqDiff reduceAdd reduceSub reduceLT)
open Go.Proofs.Tryd
theorem okFrom_cons {s : Int} {p : Option Int} {r : Row} {rs : List Row} (h : okFrom s p (r :: rs) = true) : r.ok = true ∧ 0 ≤ s + r.m - r.gone ∧ okFrom (s + r.m - r.gone) (some r.y) rs = true := by
  simp only [okFrom, Bool.and_eq_true, decide_eq_true_eq] at h
  exact ⟨h.1, h.2.2.1, h.2.2.2⟩
theorem ok_all : ∀ (xs : List Row) (s : Int) (p : Option Int) (B : Int), okFrom s p xs = true → 0 ≤ s → s ≤ B → (∀ r ∈ xs, r.ok = true) ∧ ∀ v ∈ rests s xs, 0 ≤ v ∧ v ≤ B + 9999 * xs.length
  | [], s, p, B, _, _, _ => ⟨by simp, by simp [rests]⟩
  | r :: xs, s, p, B, h, h0, hB => by
    obtain ⟨h1, h2, h3⟩ := okFrom_cons h
    have hb := ok_bounds h1
    have hg : r.gone = r.k + r.x + r.g := rfl
    obtain ⟨k1, k2⟩ := ok_all xs _ _ (B + 9999) h3 h2 (by omega)
    refine ⟨fun q hq => ?_, fun v hv => ?_⟩
    · rcases List.mem_cons.1 hq with hq | hq
      · rw [hq]; exact h1
      · exact k1 q hq
    · simp only [rests] at hv
      have hl : ((r :: xs).length : Int) = xs.length + 1 := by simp
      rcases List.mem_cons.1 hv with hv | hv
      · rw [hv]; omega
      · have := k2 v hv; omega
theorem rests_len : ∀ (xs : List Row) (s : Int), (rests s xs).length = xs.length
  | [], s => rfl
  | r :: xs, s => by simp [rests, rests_len xs]
theorem good_parts {stock : Int} {xs : List Row} (h : good stock xs = true) : 0 ≤ stock ∧ stock ≤ 9999 ∧ xs.length ≤ 10 ∧ okFrom stock none xs = true := by
  simp only [good, Bool.and_eq_true, decide_eq_true_eq] at h
  have := count_of h.1
  exact ⟨this.1, this.2, h.2.1, h.2.2⟩
theorem good_ok {stock : Int} {xs : List Row} (h : good stock xs = true) {i : Nat} {r : Row} (hr : xs[i]? = some r) : r.ok = true := by
  obtain ⟨h0, h1, h2, h3⟩ := good_parts h
  exact (ok_all xs stock none 9999 h3 h0 h1).1 r (List.mem_of_getElem? hr)
theorem good_rest {stock : Int} {xs : List Row} (h : good stock xs = true) {i : Nat} {v : Int} (hr : (rests stock xs)[i]? = some v) : 0 ≤ v ∧ v ≤ 109989 := by
  obtain ⟨h0, h1, h2, h3⟩ := good_parts h
  have := (ok_all xs stock none 9999 h3 h0 h1).2 v (List.mem_of_getElem? hr)
  omega
theorem l26Rests_fn (stock : Int) (xs : List Row) (hg : good stock xs = true) : Fn prog 22 [.int .i64 stock, .sl false 5 (rowsD xs)] (fun rs => rs = [.sl true 1 (dl iD (rests stock xs))]) := by
  obtain ⟨g0, g1, g2, g3⟩ := good_parts hg
  refine Fn_of' (fn := f22) (by exact func22) c22 r22 (n := 32) (by rfl) (rv := [.tmp 4]) (by rfl) (by simp) ?_
  unfold m22
  try simp only [wQ]
  try simp only [↓wA, ↓wC, wB, frzBE, frzBS, reduceEqDiff, reduceAdd, reduceSub, reduceIte, reduceCtorEq, Nat.reduceBEq, reduceLT]
  refine exec_loop (fun p : Nat × Int × List Int => ⟨[(0, .d (.int .i64 p.2.1)), (1, .d (.sl false 5 (rowsD xs))), (5, .own 0), (6, .d (.int .i64 p.1))], [.val (.sl true 1 (dl iD p.2.2))]⟩)
    (fun p => p.1 ≤ xs.length ∧ p.2.2.length = p.1 ∧ 0 ≤ p.2.1 ∧ p.2.1 ≤ 9999 * (p.1 + 1) ∧ okFrom p.2.1 (prevY xs p.1) (xs.drop p.1) = true ∧ rests stock xs = p.2.2 ++ rests p.2.1 (xs.drop p.1)) (fun p => xs.length - p.1) (0, stock, [])
    (weak_of [] rfl ⟨⟨rfl, rfl⟩, ⟨rfl, rfl⟩, ⟨rfl, rfl⟩, ⟨rfl, rfl⟩, trivial⟩) ⟨Nat.zero_le _, rfl, g0, by simp only; omega, by simpa [prevY] using g3, by simp⟩ ?_
  rintro ⟨i, st, out⟩ ⟨hi, hout, hs0, hs1, hok, hre⟩
  simp only at hi hout hs0 hs1 hok hre
  by_cases hlt : i < xs.length
  · obtain ⟨r, hr⟩ := get_lt hlt
    have hd : decide ((i : Int) < (xs.length : Int)) = true := by simp; omega
    have h0 : (0 : Int) ≤ (i : Int) := by omega
    rw [drop_get hr] at hok hre
    obtain ⟨k1, k2, k3⟩ := okFrom_cons hok
    have hb := ok_bounds k1
    have hgn : r.gone = r.k + r.x + r.g := rfl
    try simp only [dl_len, hd, dl_nth, Int.toNat_natCast, hr, Option.map_some, ↓rd_row, ↓fa_row1, h0, onC_true, ↓wA, ↓wC, wB, frzBE, frzBS, reduceEqDiff, reduceAdd, reduceSub, reduceIte, reduceCtorEq, Nat.reduceBEq, reduceLT]
    refine onI_bare (by simp only [InR]; omega) ?_
    try simp only [dl_len, hd, dl_nth, Int.toNat_natCast, hr, Option.map_some, ↓rd_row, h0, onC_true, ↓wA, ↓wC, wB, frzBE, frzBS, reduceEqDiff, reduceAdd, reduceSub, reduceIte, reduceCtorEq, Nat.reduceBEq, reduceLT]
    refine callP_det (l26Gone_fn r k1) rfl rfl ?_
    try simp only [↓wA, ↓wC, wB, frzBE, frzBS, reduceEqDiff, reduceAdd, reduceSub, reduceIte, reduceCtorEq, Nat.reduceBEq, reduceLT]
    refine onI_bare (by simp only [InR]; omega) ?_
    try simp only [dl_len, app_int, ↓wA, ↓wC, wB, frzBE, frzBS, reduceEqDiff, reduceAdd, reduceSub, reduceIte, reduceCtorEq, Nat.reduceBEq, reduceLT]
    refine onC_i (by first | omega | simp) ?_
    try refine onC_i (by omega) ?_
    try simp only [app_int, ↓wA, ↓wC, wB, frzBE, frzBS, reduceEqDiff, reduceAdd, reduceSub, reduceIte, reduceCtorEq, Nat.reduceBEq, reduceLT]
    refine onI_bare (by simp only [InR]; omega) ?_
    refine ⟨(i + 1, st + r.m - r.gone, out ++ [st + r.m - r.gone]), weak_of _ rfl ⟨⟨rfl, rfl⟩, ⟨rfl, rfl⟩, ⟨rfl, rfl⟩, ⟨rfl, rfl⟩, trivial⟩, ⟨by omega, by simp [hout], k2, by simp only; omega, ?_, ?_⟩, by simp only; omega⟩
    · simpa [prevY, hr] using k3
    · rw [hre]; simp [rests]
  · have hd : decide ((i : Int) < (xs.length : Int)) = false := by simp; omega
    have e : i = xs.length := by omega
    have ho : rests stock xs = out := by rw [hre, e, List.drop_length]; simp [rests]
    try simp only [dl_len, hd, ↓wA, ↓wC, wB, frzBE, frzBS, reduceEqDiff, reduceAdd, reduceSub, reduceIte, reduceCtorEq, Nat.reduceBEq, reduceLT]
    rw [ho]
end Go.Pe.Tryd
set_option maxRecDepth 100000
set_option maxHeartbeats 4000000
set_option linter.all false
namespace Go.Pe.Tryd
open Nat (reduceEqDiff reduceAdd reduceSub reduceLT)
open Go.Proofs.Tryd
def rl (p : Row × Int) : List UInt8 := 10 :: (yl p.1 ++ 32 :: 61 :: 32 :: Lib.itoa p.2)
def rtx (stock : Int) (xs : List Row) (i : Nat) : List UInt8 := [115, 116, 111, 99, 107, 32] ++ Lib.itoa stock ++ ((xs.zip (rests stock xs)).take i).flatMap rl
theorem rtx_step {stock : Int} {xs : List Row} {i : Nat} {r : Row} {v : Int} (hr : xs[i]? = some r) (hv : (rests stock xs)[i]? = some v) : rtx stock xs (i + 1) = rtx stock xs i ++ rl (r, v) := by
  have hz : (xs.zip (rests stock xs))[i]? = some (r, v) := by rw [List.getElem?_zip_eq_some]; exact ⟨hr, hv⟩
  have hi := lt_of_get hz
  unfold rtx
  rw [List.take_succ_eq_append_getElem hi, List.flatMap_append, ← List.append_assoc]
  have : (xs.zip (rests stock xs))[i] = (r, v) := by rw [List.getElem?_eq_getElem hi] at hz; injection hz
  rw [this]
  simp
theorem rd_iD {o : List Ob} {K : SV → Prop} {n : Int} : stepRd o none (iD n) K = K (.d (.int .i64 n)) := by simp [iD, stepRd, D.noOwn]
theorem yl_le {r : Row} (h : r.ok = true) : (yl r).length ≤ 130 := by
  have hb := ok_bounds h
  have hg : r.gone = r.k + r.x + r.g := rfl
  have l1 := small_len (n := r.y) (by omega) (by omega)
  have l2 := small_len (n := r.m) (by omega) (by omega)
  have l3 := small_len (n := r.gone) (by omega) (by omega)
  have l4 := small_len (n := r.x) (by omega) (by omega)
  unfold yl
  split <;> simp only [ylB, ylX, List.length_append, List.length_cons, List.length_nil] <;> omega
theorem specReport_fn (stock : Int) (xs : List Row) (hs : InR .i64 stock) (hlen : xs.length ≤ 1048576) (hg : good stock xs = true) : Fn prog 18 [.int .i64 stock, .sl false 5 (rowsD xs)] (fun rs => rs = [.str (rtx stock xs xs.length), .bool true]) := by
  obtain ⟨g0, g1, g2, g3⟩ := good_parts hg
  have hgo := l26Good_fn stock xs hs hlen
  rw [hg] at hgo
  have hls := small_len (n := stock) g0 (by omega)
  have hx0 : rtx stock xs 0 = 115 :: 116 :: 111 :: 99 :: 107 :: 32 :: Lib.itoa stock := by simp [rtx]
  refine Fn_of' (fn := f18) (by exact func18) c18 r18 (n := 41) (by rfl) (rv := [.tmp 4, .tmp 5]) (by rfl) (by simp) ?_
  unfold m18
  try simp only [wQ]
  try simp only [↓wA, ↓wC, wB, frzBE, frzBS, reduceEqDiff, reduceAdd, reduceSub, reduceIte, reduceCtorEq, Nat.reduceBEq, reduceLT]
  refine call_det hgo rfl rfl ?_
  try simp only [↓wA, ↓wC, wB, frzBE, frzBS, reduceEqDiff, reduceAdd, reduceSub, reduceIte, reduceCtorEq, Nat.reduceBEq, reduceLT]
  refine call_det (l1Num_fn stock g0 hs) rfl rfl ?_
  try simp only [↓wA, ↓wC, wB, frzBE, frzBS, reduceEqDiff, reduceAdd, reduceSub, reduceIte, reduceCtorEq, Nat.reduceBEq, reduceLT]
  refine onC_i (by (try simp only [List.length_append, List.length_cons, List.length_nil]); omega) ?_
  try simp only [↓wA, ↓wC, wB, frzBE, frzBS, reduceEqDiff, reduceAdd, reduceSub, reduceIte, reduceCtorEq, Nat.reduceBEq, reduceLT]
  refine call_det (l26Rests_fn stock xs hg) rfl (by simp [D.allOwn, ints_allOwn]) ?_
  try simp only [↓wA, ↓wC, wB, frzBE, frzBS, reduceEqDiff, reduceAdd, reduceSub, reduceIte, reduceCtorEq, Nat.reduceBEq, reduceLT]
  refine exec_loop (fun i : Nat => ⟨[(1, .d (.sl false 5 (rowsD xs))), (6, .d (.str (rtx stock xs i))), (7, .own 0), (8, .d (.int .i64 i))], [.val (.sl true 1 (dl iD (rests stock xs)))]⟩)
    (fun i => i ≤ xs.length ∧ (rtx stock xs i).length ≤ 100 + 200 * i) (fun i => xs.length - i) 0
    (weak_of [] rfl ⟨⟨rfl, rfl⟩, ⟨by rw [hx0]; rfl, rfl⟩, ⟨rfl, rfl⟩, ⟨rfl, rfl⟩, trivial⟩) ⟨Nat.zero_le _, by simp only [rtx, List.take_zero, List.flatMap_nil, List.length_append, List.length_cons, List.length_nil]; omega⟩ ?_
  rintro i ⟨hi, hl⟩
  by_cases hlt : i < xs.length
  · obtain ⟨r, hr⟩ := get_lt hlt
    obtain ⟨v, hv⟩ := get_lt (show i < (rests stock xs).length by rw [rests_len]; omega)
    have hok := good_ok hg hr
    have hvb := good_rest hg hv
    have hyl := yl_le hok
    have hvl := small_len (n := v) hvb.1 (by omega)
    have hd : decide ((i : Int) < (xs.length : Int)) = true := decide_eq_true (by omega)
    have h0 : (0 : Int) ≤ (i : Int) := by omega
    have hst := rtx_step hr hv
    have d1 := l26Line_fn r hok
    have d2 := l1Num_fn v hvb.1 (small_InR hvb.1 (by omega))
    repeat' (first | (simp only [hd, h0, dl_len, dl_nth, Int.toNat_natCast, hr, hv, Option.map_some, ↓rd_row, ↓rd_iD, onC_true, rests_len, ↓wA, ↓wC, wB, frzBE, frzBS, reduceEqDiff, reduceAdd, reduceSub, reduceIte, reduceCtorEq, Nat.reduceBEq, reduceLT]) | (refine callP_det d1 rfl rfl ?_) | (refine callP_det d2 rfl rfl ?_) | (refine onC_i (by (try simp only [List.length_append, List.length_cons, List.length_nil]); omega) ?_) | (refine onI_bare (by simp only [InR]; omega) ?_) | ((first | apply execG_split | apply execC_split | apply onPick_split) <;> intro h <;> try simp only [h]))
    all_goals refine ⟨i + 1, weak_of [] rfl ⟨⟨rfl, rfl⟩, ⟨?_, rfl⟩, ⟨rfl, rfl⟩, ⟨rfl, rfl⟩, trivial⟩, ⟨by omega, ?_⟩, by omega⟩
    · rw [hst]; rfl
    · rw [hst]; simp only [rl, List.length_append, List.length_cons]; omega
  · have hd : decide ((i : Int) < (xs.length : Int)) = false := decide_eq_false (by omega)
    have e : i = xs.length := by omega
    try simp only [dl_len, hd, ↓wA, ↓wC, wB, frzBE, frzBS, reduceEqDiff, reduceAdd, reduceSub, reduceIte, reduceCtorEq, Nat.reduceBEq, reduceLT]
    rw [e]
theorem implReport_fn (stock : Int) (xs : List Row) (hs : InR .i64 stock) (hlen : xs.length ≤ 1048576) (hg : good stock xs = true) : Fn prog 17 [.int .i64 stock, .sl false 5 (rowsD xs)] (fun rs => rs = [.str (rtx stock xs xs.length), .bool true]) := by
  obtain ⟨g0, g1, g2, g3⟩ := good_parts hg
  have hgo := restsAfter_fn stock xs hlen
  simp only [restsR, hg, if_true] at hgo
  have hls := small_len (n := stock) g0 (by omega)
  have hx0 : rtx stock xs 0 = 115 :: 116 :: 111 :: 99 :: 107 :: 32 :: Lib.itoa stock := by simp [rtx]
  refine Fn_of' (fn := f17) (by exact func17) c17 r17 (n := 43) (by rfl) (rv := [.tmp 4, .tmp 5]) (by rfl) (by simp) ?_
  unfold m17
  try simp only [wQ]
  try simp only [↓wA, ↓wC, wB, frzBE, frzBS, reduceEqDiff, reduceAdd, reduceSub, reduceIte, reduceCtorEq, Nat.reduceBEq, reduceLT]
  refine call_det hgo rfl (by simp [D.allOwn, ints_allOwn]) ?_
  try simp only [↓wA, ↓wC, wB, frzBE, frzBS, reduceEqDiff, reduceAdd, reduceSub, reduceIte, reduceCtorEq, Nat.reduceBEq, reduceLT]
  refine call_det (decimal_fn stock hs) rfl rfl ?_
  try simp only [↓wA, ↓wC, wB, frzBE, frzBS, reduceEqDiff, reduceAdd, reduceSub, reduceIte, reduceCtorEq, Nat.reduceBEq, reduceLT]
  refine onC_i (by (try simp only [List.length_append, List.length_cons, List.length_nil]); omega) ?_
  try simp only [dl_len, ↓wA, ↓wC, wB, frzBE, frzBS, reduceEqDiff, reduceAdd, reduceSub, reduceIte, reduceCtorEq, Nat.reduceBEq, reduceLT]
  refine exec_loop (fun i : Nat => ⟨[(6, .own 0), (8, .d (.str (rtx stock xs i))), (22, .d (.sl false 5 (rowsD xs))), (23, .d (.int .i64 xs.length)), (24, .d (.int .i64 i))], [.val (.sl true 1 (dl iD (rests stock xs)))]⟩)
    (fun i => i ≤ xs.length ∧ (rtx stock xs i).length ≤ 100 + 200 * i) (fun i => xs.length - i) 0
    (weak_of [] rfl ⟨⟨rfl, rfl⟩, ⟨by rw [hx0]; rfl, rfl⟩, ⟨rfl, rfl⟩, ⟨rfl, rfl⟩, ⟨rfl, rfl⟩, trivial⟩) ⟨Nat.zero_le _, by simp only [rtx, List.take_zero, List.flatMap_nil, List.length_append, List.length_cons, List.length_nil]; omega⟩ ?_
  rintro i ⟨hi, hl⟩
  by_cases hlt : i < xs.length
  · obtain ⟨r, hr⟩ := get_lt hlt
    obtain ⟨v, hv⟩ := get_lt (show i < (rests stock xs).length by rw [rests_len]; omega)
    have hok := good_ok hg hr
    have hvb := good_rest hg hv
    have hyl := yl_le hok
    have hvl := small_len (n := v) hvb.1 (by omega)
    have hd : decide ((i : Int) < (xs.length : Int)) = true := decide_eq_true (by omega)
    have h0 : (0 : Int) ≤ (i : Int) := by omega
    have hst := rtx_step hr hv
    have d1 := yearLine_fn r hok
    have d2 := decimal_fn v (small_InR hvb.1 (by omega))
    repeat' (first | (simp only [hd, h0, dl_len, dl_nth, Int.toNat_natCast, hr, hv, Option.map_some, ↓rd_row, ↓rd_iD, onC_true, rests_len, isV_row, size_row, ↓wA, ↓wC, wB, frzBE, frzBS, reduceEqDiff, reduceAdd, reduceSub, reduceIte, reduceCtorEq, Nat.reduceBEq, reduceLT]) | (refine callP_det d1 rfl rfl ?_) | (refine callP_det d2 rfl rfl ?_) | (refine onC_i (by (try simp only [List.length_append, List.length_cons, List.length_nil]); omega) ?_) | (refine onI_bare (by simp only [InR]; omega) ?_) | ((first | apply execG_split | apply execC_split | apply onPick_split) <;> intro h <;> try simp only [h]))
    all_goals refine ⟨i + 1, weak_of _ rfl ⟨⟨rfl, rfl⟩, ⟨?_, rfl⟩, ⟨rfl, rfl⟩, ⟨rfl, rfl⟩, ⟨rfl, rfl⟩, trivial⟩, ⟨by omega, ?_⟩, by omega⟩
    · rw [hst]; rfl
    · rw [hst]; simp only [rl, List.length_append, List.length_cons]; omega
  · have hd : decide ((i : Int) < (xs.length : Int)) = false := decide_eq_false (by omega)
    have e : i = xs.length := by omega
    try simp only [dl_len, hd, ↓wA, ↓wC, wB, frzBE, frzBS, reduceEqDiff, reduceAdd, reduceSub, reduceIte, reduceCtorEq, Nat.reduceBEq, reduceLT]
    rw [e]
theorem specReport_bad (stock : Int) (xs : List Row) (hs : InR .i64 stock) (hlen : xs.length ≤ 1048576) (hg : good stock xs = false) : Fn prog 18 [.int .i64 stock, .sl false 5 (rowsD xs)] (fun rs => rs = [.str [], .bool false]) := by
  have hgo := l26Good_fn stock xs hs hlen
  rw [hg] at hgo
  refine Fn_of' (fn := f18) (by exact func18) c18 r18 (n := 41) (by rfl) (rv := [.tmp 4, .tmp 5]) (by rfl) (by simp) ?_
  unfold m18
  try simp only [wQ]
  try simp only [↓wA, ↓wC, wB, frzBE, frzBS, reduceEqDiff, reduceAdd, reduceSub, reduceIte, reduceCtorEq, Nat.reduceBEq, reduceLT]
  refine call_det hgo rfl rfl ?_
  try simp only [↓wA, ↓wC, wB, frzBE, frzBS, reduceEqDiff, reduceAdd, reduceSub, reduceIte, reduceCtorEq, Nat.reduceBEq, reduceLT]
theorem implReport_bad (stock : Int) (xs : List Row) (hlen : xs.length ≤ 1048576) (hg : good stock xs = false) : Fn prog 17 [.int .i64 stock, .sl false 5 (rowsD xs)] (fun rs => rs = [.str [], .bool false]) := by
  have hgo := restsAfter_fn stock xs hlen
  simp only [restsR, hg, Bool.false_eq_true, if_false] at hgo
  refine Fn_of' (fn := f17) (by exact func17) c17 r17 (n := 43) (by rfl) (rv := [.tmp 4, .tmp 5]) (by rfl) (by simp) ?_
  unfold m17
  try simp only [wQ]
  try simp only [↓wA, ↓wC, wB, frzBE, frzBS, reduceEqDiff, reduceAdd, reduceSub, reduceIte, reduceCtorEq, Nat.reduceBEq, reduceLT]
  refine call_det hgo rfl (by simp [D.allOwn, ints_allOwn]) ?_
  try simp only [↓wA, ↓wC, wB, frzBE, frzBS, reduceEqDiff, reduceAdd, reduceSub, reduceIte, reduceCtorEq, Nat.reduceBEq, reduceLT]
end Go.Pe.Tryd
set_option maxRecDepth 100000
set_option maxHeartbeats 4000000
set_option linter.all false
namespace Go.Pe.Tryd
open Nat (reduceEqDiff reduceAdd reduceSub reduceLT)
open Go.Proofs.Tryd
theorem bytes_noOwn : ∀ bs : List UInt8, (bytesD bs).noOwn = true
  | [] => rfl
  | b :: bs => by simp [bytesD, D.noOwn, bytes_noOwn bs]
theorem bytes_nth : ∀ (bs : List UInt8) (i : Nat), (bytesD bs).nth i = (bs[i]?).map fun b => D.int .u8 (b.toNat : Int)
  | [], i => by cases i <;> rfl
  | b :: bs, 0 => rfl
  | b :: bs, i + 1 => by simp [bytesD, D.nth, bytes_nth bs i]
theorem and255 (x : Int) : 0 ≤ bits .and .u64 x 255 ∧ bits .and .u64 x 255 ≤ 255 := by
  unfold bits
  have h : (BitVec.ofInt (IntKind.bits .u64) x &&& BitVec.ofInt (IntKind.bits .u64) 255).toNat ≤ 255 := by
    rw [BitVec.toNat_and]; exact Nat.le_trans Nat.and_le_right (by decide)
  simp only []
  generalize (BitVec.ofInt (IntKind.bits .u64) x &&& BitVec.ofInt (IntKind.bits .u64) 255).toNat = m at h
  have : IntKind.wrap .u64 (m : Int) = m := by
    simp [IntKind.wrap, IntKind.bits, IntKind.signed]; omega
  rw [this]; omega
def curD (code : List UInt8) (k : Nat) (seed : Int) : D := .st (.cons (.sl false 1 (bytesD code)) (.cons (.int .i64 k) (.cons (.int .u64 seed) .nil)))
theorem cur_next (code : List UInt8) (k : Nat) (seed : Int) (hc : code.length ≤ 1048576) (hk : k ≤ 1000000000000) : FnM prog 60 true (curD code k seed) []
    (fun x' rs => ∃ (n : Int) (seed' : Int), x' = curD code (k + 1) seed' ∧ rs = [.int .i64 n] ∧ 0 ≤ n ∧ n < 256) := by
  have h0 : (0 : Int) ≤ (k : Int) := by omega
  refine FnM_of' (fn := f60) (by exact func60) c60 r60 (n := 62) (by rfl) (rv := [.tmp 2]) (by rfl) (by decide) (by simp) ?_
  unfold m60
  try simp only [wQ]
  simp only [curD]
  by_cases hlt : k < code.length
  · obtain ⟨b, hb⟩ := get_lt hlt
    have hbl : (b.toNat : Int) < 256 := by have := b.toNat_lt; omega
    have hd : decide ((k : Int) < (code.length : Int)) = true := decide_eq_true (by omega)
    have hd2 : decide ((k : Int) + 1 ≤ (code.length : Int)) = true := decide_eq_true (by omega)
    repeat' (first | (simp only [bytesD_len, bytes_noOwn, bytes_nth, hd, hd2, h0, hb, Int.toNat_natCast, onC_true, ↓wA, ↓wC, wB, frzBE, frzBS, reduceEqDiff, reduceAdd, reduceSub, reduceIte, reduceCtorEq, Nat.reduceBEq, reduceLT]) | (refine onI_bare (by simp only [InR]; omega) ?_) | (refine onI_wrap ?_) | ((first | apply execG_split | apply execC_split | apply onPick_split) <;> intro h <;> try simp only [h]))
    exact ⟨_, _, rfl, rfl, by omega, hbl⟩
  · have hd : decide ((k : Int) < (code.length : Int)) = false := decide_eq_false (by omega)
    have hd2 : decide ((k : Int) + 1 ≤ (code.length : Int)) = false := decide_eq_false (by omega)
    repeat' (first | (simp only [bytesD_len, bytes_noOwn, hd, hd2, h0, onC_true, ↓wA, ↓wC, wB, frzBE, frzBS, reduceEqDiff, reduceAdd, reduceSub, reduceIte, reduceCtorEq, Nat.reduceBEq, reduceLT]) | (with_reducible refine onI_bare ?_ ?_; focus (simp only [InR]; omega)) | (with_reducible refine onC_i ?_ ?_; focus omega) | (with_reducible refine onI_wrap (k := .u64) ?_) | ((first | apply execG_split | apply execC_split | apply onPick_split) <;> intro h <;> try simp only [h]))
    generalize hX : (Int.fdiv _ _ : Int) = X
    have h255 := and255 X
    refine onI_bare (by simp only [InR]; omega) ?_
    simp only [↓wA, ↓wC, wB, frzBE, frzBS, reduceEqDiff, reduceAdd, reduceSub, reduceIte, reduceCtorEq, Nat.reduceBEq, reduceLT]
    exact ⟨_, _, rfl, rfl, h255.1, by omega⟩
end Go.Pe.Tryd
set_option maxRecDepth 100000
set_option maxHeartbeats 4000000
set_option linter.all false
namespace Go.Pe.Tryd
open Nat (reduceEqDiff reduceAdd reduceSub reduceLT)
open Go.Proofs.Tryd
theorem pick_fn (code : List UInt8) (k : Nat) (seed n : Int) (hc : code.length ≤ 1048576) (hk : k ≤ 999999999990) : FnM prog 49 true (curD code k seed) [.int .i64 n]
    (fun x' rs => ∃ (m : Int) (k' : Nat) (seed' : Int), x' = curD code k' seed' ∧ rs = [.int .i64 m] ∧ k ≤ k' ∧ k' ≤ k + 2 ∧ 0 ≤ m ∧ (m < n ∨ m = 0)) := by
  cases h1 : decide (n ≤ 1) with
  | true =>
    refine FnM_of' (fn := f49) (by exact func49) c49 r49 (n := 20) (by rfl) (rv := [.tmp 4]) (by rfl) (by decide) (by simp) ?_
    unfold m49
    try simp only [wQ]
    repeat' (first | (simp only [h1, ↓wA, ↓wC, wB, frzBE, frzBS, reduceEqDiff, reduceAdd, reduceSub, reduceIte, reduceCtorEq, Nat.reduceBEq, reduceLT]) | ((first | apply execG_split | apply execC_split | apply onPick_split) <;> intro h <;> try simp only [h]))
    exact ⟨0, k, seed, rfl, rfl, by omega, by omega, by omega, .inr rfl⟩
  | false =>
    have h1' := of_decide_eq_false h1
    have hn0 : n ≠ 0 := by omega
    cases h2 : decide (200 < n) with
    | false =>
      refine FnM_of' (fn := f49) (by exact func49) c49 r49 (n := 20) (by rfl) (rv := [.tmp 4]) (by rfl) (by decide) (by simp) ?_
      unfold m49
      try simp only [wQ]
      repeat' (first | (simp only [h1, h2, ↓wA, ↓wC, wB, frzBE, frzBS, reduceEqDiff, reduceAdd, reduceSub, reduceIte, reduceCtorEq, Nat.reduceBEq, reduceLT]) | ((first | apply execG_split | apply execC_split | apply onPick_split) <;> intro h <;> try simp only [h]))
      refine callM_rel (cur_next code k seed hc (by omega)) rfl rfl rfl ?_
      rintro _ _ ⟨a, s1, rfl, rfl, ha0, ha1⟩
      have t0 : 0 ≤ a.tmod n := Int.tmod_nonneg _ ha0
      have t1 : a.tmod n < n := Int.tmod_lt_of_pos _ (by omega)
      repeat' (first | (simp only [h1, h2, ↓wA, ↓wC, wB, frzBE, frzBS, reduceEqDiff, reduceAdd, reduceSub, reduceIte, reduceCtorEq, Nat.reduceBEq, reduceLT]) | (with_reducible refine onC_i hn0 ?_) | (with_reducible refine onI_bare ?_ ?_; focus (simp only [InR]; omega)) | ((first | apply execG_split | apply execC_split | apply onPick_split) <;> intro h <;> try simp only [h]))
      exact ⟨_, k + 1, s1, rfl, rfl, by omega, by omega, t0, .inl t1⟩
    | true =>
      refine FnM_of' (fn := f49) (by exact func49) c49 r49 (n := 20) (by rfl) (rv := [.tmp 4]) (by rfl) (by decide) (by simp) ?_
      unfold m49
      try simp only [wQ]
      repeat' (first | (simp only [h1, h2, ↓wA, ↓wC, wB, frzBE, frzBS, reduceEqDiff, reduceAdd, reduceSub, reduceIte, reduceCtorEq, Nat.reduceBEq, reduceLT]) | ((first | apply execG_split | apply execC_split | apply onPick_split) <;> intro h <;> try simp only [h]))
      refine callM_rel (cur_next code k seed hc (by omega)) rfl rfl rfl ?_
      rintro _ _ ⟨a, s1, rfl, rfl, ha0, ha1⟩
      repeat' (first | (simp only [h1, h2, ↓wA, ↓wC, wB, frzBE, frzBS, reduceEqDiff, reduceAdd, reduceSub, reduceIte, reduceCtorEq, Nat.reduceBEq, reduceLT]) | (with_reducible refine onI_bare ?_ ?_; focus (simp only [InR]; omega)) | ((first | apply execG_split | apply execC_split | apply onPick_split) <;> intro h <;> try simp only [h]))
      refine callM_rel (cur_next code (k + 1) s1 hc (by omega)) rfl rfl rfl ?_
      rintro _ _ ⟨b, s2, rfl, rfl, hb0, hb1⟩
      have t0 : 0 ≤ (a * 256 + b).tmod n := Int.tmod_nonneg _ (by omega)
      have t1 : (a * 256 + b).tmod n < n := Int.tmod_lt_of_pos _ (by omega)
      repeat' (first | (simp only [h1, h2, ↓wA, ↓wC, wB, frzBE, frzBS, reduceEqDiff, reduceAdd, reduceSub, reduceIte, reduceCtorEq, Nat.reduceBEq, reduceLT]) | (with_reducible refine onC_i hn0 ?_) | (with_reducible refine onI_bare ?_ ?_; focus (simp only [InR]; omega)) | ((first | apply execG_split | apply execC_split | apply onPick_split) <;> intro h <;> try simp only [h]))
      exact ⟨_, k + 1 + 1, s2, rfl, rfl, by omega, by omega, t0, .inl t1⟩
end Go.Pe.Tryd
set_option maxRecDepth 100000
set_option maxHeartbeats 4000000
set_option linter.all false
namespace Go.Pe.Tryd
open Nat (reduceEqDiff reduceAdd reduceSub reduceLT)
open Go.Proofs.Tryd
theorem one_fn (code : List UInt8) (k : Nat) (seed n : Int) (hc : code.length ≤ 1048576) (hk : k ≤ 999999999990) : FnM prog 35 true (curD code k seed) [.int .i64 n]
    (fun x' rs => ∃ (b : Bool) (k' : Nat) (seed' : Int), x' = curD code k' seed' ∧ rs = [.bool b] ∧ k ≤ k' ∧ k' ≤ k + 2) := by
  refine FnM_of' (fn := f35) (by exact func35) c35 r35 (n := 9) (by rfl) (rv := [.tmp 4]) (by rfl) (by decide) (by simp) ?_
  unfold m35
  try simp only [wQ]
  try simp only [↓wA, ↓wC, wB, frzBE, frzBS, reduceEqDiff, reduceAdd, reduceSub, reduceIte, reduceCtorEq, Nat.reduceBEq, reduceLT]
  refine callM_rel (pick_fn code k seed n hc hk) rfl rfl rfl ?_
  rintro _ _ ⟨m, k', s', rfl, rfl, h1, h2, h3, h4⟩
  simp only [↓wA, ↓wC, wB, frzBE, frzBS, reduceEqDiff, reduceAdd, reduceSub, reduceIte, reduceCtorEq, Nat.reduceBEq, reduceLT]
  exact ⟨_, k', s', rfl, rfl, h1, h2⟩
theorem among_fn (code : List UInt8) (k : Nat) (seed : Int) (v : List Int) (hc : code.length ≤ 1048576) (hk : k ≤ 999999999990) (hv : 0 < v.length) (hl : v.length ≤ 1048576) : FnM prog 34 true (curD code k seed) [.sl false 1 (dl iD v)]
    (fun x' rs => ∃ (m : Int) (k' : Nat) (seed' : Int), x' = curD code k' seed' ∧ rs = [.int .i64 m] ∧ k ≤ k' ∧ k' ≤ k + 2 ∧ m ∈ v) := by
  refine FnM_of' (fn := f34) (by exact func34) c34 r34 (n := 12) (by rfl) (rv := [.tmp 4]) (by rfl) (by decide) (by simp) ?_
  unfold m34
  try simp only [wQ]
  try simp only [dl_len, ↓wA, ↓wC, wB, frzBE, frzBS, reduceEqDiff, reduceAdd, reduceSub, reduceIte, reduceCtorEq, Nat.reduceBEq, reduceLT]
  refine callM_rel (pick_fn code k seed v.length hc hk) rfl rfl rfl ?_
  rintro _ _ ⟨m, k', s', rfl, rfl, h1, h2, h3, h4⟩
  obtain ⟨y, hy⟩ := get_lt (show m.toNat < v.length by omega)
  repeat' (first | (simp only [dl_len, dl_nth, h3, hy, Option.map_some, onC_true, rd_iD, ↓wA, ↓wC, wB, frzBE, frzBS, reduceEqDiff, reduceAdd, reduceSub, reduceIte, reduceCtorEq, Nat.reduceBEq, reduceLT]) | ((first | apply execG_split | apply execC_split | apply onPick_split) <;> intro h <;> try simp only [h]))
  exact ⟨y, k', s', rfl, rfl, h1, h2, List.mem_of_getElem? hy⟩
end Go.Pe.Tryd
set_option maxRecDepth 100000
set_option maxHeartbeats 4000000
set_option linter.all false
namespace Go.Pe.Tryd
open Nat (reduceEqDiff reduceAdd reduceSub reduceLT)
open Go.Proofs.Tryd
theorem yearRow_fn (code : List UInt8) (k : Nat) (seed year : Int) (hc : code.length ≤ 1048576) (hk : k ≤ 999999999000) : FnM prog 33 true (curD code k seed) [.int .i64 year]
    (fun x' rs => ∃ (r : Row) (k' : Nat) (seed' : Int), x' = curD code k' seed' ∧ rs = [r.d] ∧ k ≤ k' ∧ k' ≤ k + 20) := by
  refine FnM_of' (fn := f33) (by exact func33) c33 r33 (n := 53) (by rfl) (rv := [.cell 4 33]) (by rfl) (by decide) (by simp) ?_
  unfold m33
  try simp only [wQ]
  repeat' (first | (simp only [onC_true, ↓wA, ↓wC, wB, frzBE, frzBS, reduceEqDiff, reduceAdd, reduceSub, reduceIte, reduceCtorEq, Nat.reduceBEq, reduceLT, sz33]) | ((first | apply execG_split | apply execC_split | apply onPick_split) <;> intro h <;> try simp only [h]))
  refine call_frz 2 ?_
  simp only [frz1, frzE, frzS, D.unown, ↓wA, ↓wC, wB, frzBE, frzBS, reduceEqDiff, reduceAdd, reduceSub, reduceIte, reduceCtorEq, Nat.reduceBEq, reduceLT, sz33]
  refine callM_rel (among_fn code k seed [0, 40, 100, 9999] hc (by omega) (by decide) (by decide)) rfl rfl rfl ?_
  rintro _ _ ⟨m, k1, s1, rfl, rfl, hk1, hk1', hmm⟩
  repeat' (first | (simp only [onC_true, ↓wA, ↓wC, wB, frzBE, frzBS, reduceEqDiff, reduceAdd, reduceSub, reduceIte, reduceCtorEq, Nat.reduceBEq, reduceLT, sz33]) | ((first | apply execG_split | apply execC_split | apply onPick_split) <;> intro h <;> try simp only [h]))
  refine call_frz 3 ?_
  simp only [frz1, frzE, frzS, D.unown, ↓wA, ↓wC, wB, frzBE, frzBS, reduceEqDiff, reduceAdd, reduceSub, reduceIte, reduceCtorEq, Nat.reduceBEq, reduceLT, sz33]
  refine callM_rel (among_fn code k1 s1 [0, 3, 10] hc (by omega) (by decide) (by decide)) rfl rfl rfl ?_
  rintro _ _ ⟨p, k2, s2, rfl, rfl, hk2, hk2', hmp⟩
  repeat' (first | (simp only [onC_true, ↓wA, ↓wC, wB, frzBE, frzBS, reduceEqDiff, reduceAdd, reduceSub, reduceIte, reduceCtorEq, Nat.reduceBEq, reduceLT, sz33]) | ((first | apply execG_split | apply execC_split | apply onPick_split) <;> intro h <;> try simp only [h]))
  refine call_frz 4 ?_
  simp only [frz1, frzE, frzS, D.unown, ↓wA, ↓wC, wB, frzBE, frzBS, reduceEqDiff, reduceAdd, reduceSub, reduceIte, reduceCtorEq, Nat.reduceBEq, reduceLT, sz33]
  refine callM_rel (among_fn code k2 s2 [0, 0, 5, 30] hc (by omega) (by decide) (by decide)) rfl rfl rfl ?_
  rintro _ _ ⟨x, k3, s3, rfl, rfl, hk3, hk3', hmx⟩
  repeat' (first | (simp only [onC_true, ↓wA, ↓wC, wB, frzBE, frzBS, reduceEqDiff, reduceAdd, reduceSub, reduceIte, reduceCtorEq, Nat.reduceBEq, reduceLT, sz33]) | ((first | apply execG_split | apply execC_split | apply onPick_split) <;> intro h <;> try simp only [h]))
  refine call_frz 5 ?_
  simp only [frz1, frzE, frzS, D.unown, ↓wA, ↓wC, wB, frzBE, frzBS, reduceEqDiff, reduceAdd, reduceSub, reduceIte, reduceCtorEq, Nat.reduceBEq, reduceLT, sz33]
  refine callM_rel (among_fn code k3 s3 [0, 7] hc (by omega) (by decide) (by decide)) rfl rfl rfl ?_
  rintro _ _ ⟨g, k4, s4, rfl, rfl, hk4, hk4', hmg⟩
  repeat' (first | (simp only [onC_true, ↓wA, ↓wC, wB, frzBE, frzBS, reduceEqDiff, reduceAdd, reduceSub, reduceIte, reduceCtorEq, Nat.reduceBEq, reduceLT, sz33]) | ((first | apply execG_split | apply execC_split | apply onPick_split) <;> intro h <;> try simp only [h]))
  refine callM_rel (pick_fn code k4 s4 80 hc (by omega)) rfl rfl rfl ?_
  rintro _ _ ⟨w, k5, s5, rfl, rfl, hk5, hk5', hw, hw'⟩
  repeat' (first | (simp only [onC_true, ↓wA, ↓wC, wB, frzBE, frzBS, reduceEqDiff, reduceAdd, reduceSub, reduceIte, reduceCtorEq, Nat.reduceBEq, reduceLT, sz33]) | ((first | apply execG_split | apply execC_split | apply onPick_split) <;> intro h <;> try simp only [h]))
  · skip
    refine call_frz 7 ?_
    simp only [frz1, frzE, frzS, D.unown, ↓wA, ↓wC, wB, frzBE, frzBS, reduceEqDiff, reduceAdd, reduceSub, reduceIte, reduceCtorEq, Nat.reduceBEq, reduceLT, sz33]
    refine callM_rel (among_fn code k5 s5 [1899, 2201] hc (by omega) (by decide) (by decide)) rfl rfl rfl ?_
    rintro _ _ ⟨z, k6, s6, rfl, rfl, hk6, hk6', hmz⟩
    repeat' (first | (simp only [onC_true, ↓wA, ↓wC, wB, frzBE, frzBS, reduceEqDiff, reduceAdd, reduceSub, reduceIte, reduceCtorEq, Nat.reduceBEq, reduceLT, sz33]) | ((first | apply execG_split | apply execC_split | apply onPick_split) <;> intro h <;> try simp only [h]))
    exact ⟨⟨z, m, p, x, g⟩, k6, _, rfl, rfl, by omega, by omega⟩
  · skip
    refine call_frz 7 ?_
    simp only [frz1, frzE, frzS, D.unown, ↓wA, ↓wC, wB, frzBE, frzBS, reduceEqDiff, reduceAdd, reduceSub, reduceIte, reduceCtorEq, Nat.reduceBEq, reduceLT, sz33]
    refine callM_rel (among_fn code k5 s5 [-1, 10000] hc (by omega) (by decide) (by decide)) rfl rfl rfl ?_
    rintro _ _ ⟨z, k6, s6, rfl, rfl, hk6, hk6', hmz⟩
    repeat' (first | (simp only [onC_true, ↓wA, ↓wC, wB, frzBE, frzBS, reduceEqDiff, reduceAdd, reduceSub, reduceIte, reduceCtorEq, Nat.reduceBEq, reduceLT, sz33]) | ((first | apply execG_split | apply execC_split | apply onPick_split) <;> intro h <;> try simp only [h]))
    exact ⟨⟨year, z, p, x, g⟩, k6, _, rfl, rfl, by omega, by omega⟩
  · skip
    refine call_frz 7 ?_
    simp only [frz1, frzE, frzS, D.unown, ↓wA, ↓wC, wB, frzBE, frzBS, reduceEqDiff, reduceAdd, reduceSub, reduceIte, reduceCtorEq, Nat.reduceBEq, reduceLT, sz33]
    refine callM_rel (among_fn code k5 s5 [-1, 9999, 10000] hc (by omega) (by decide) (by decide)) rfl rfl rfl ?_
    rintro _ _ ⟨z, k6, s6, rfl, rfl, hk6, hk6', hmz⟩
    repeat' (first | (simp only [onC_true, ↓wA, ↓wC, wB, frzBE, frzBS, reduceEqDiff, reduceAdd, reduceSub, reduceIte, reduceCtorEq, Nat.reduceBEq, reduceLT, sz33]) | ((first | apply execG_split | apply execC_split | apply onPick_split) <;> intro h <;> try simp only [h]))
    exact ⟨⟨year, m, z, x, g⟩, k6, _, rfl, rfl, by omega, by omega⟩
  · skip
    refine call_frz 7 ?_
    simp only [frz1, frzE, frzS, D.unown, ↓wA, ↓wC, wB, frzBE, frzBS, reduceEqDiff, reduceAdd, reduceSub, reduceIte, reduceCtorEq, Nat.reduceBEq, reduceLT, sz33]
    refine callM_rel (among_fn code k5 s5 [-1, 9999, 10000] hc (by omega) (by decide) (by decide)) rfl rfl rfl ?_
    rintro _ _ ⟨z, k6, s6, rfl, rfl, hk6, hk6', hmz⟩
    repeat' (first | (simp only [onC_true, ↓wA, ↓wC, wB, frzBE, frzBS, reduceEqDiff, reduceAdd, reduceSub, reduceIte, reduceCtorEq, Nat.reduceBEq, reduceLT, sz33]) | ((first | apply execG_split | apply execC_split | apply onPick_split) <;> intro h <;> try simp only [h]))
    exact ⟨⟨year, m, p, z, g⟩, k6, _, rfl, rfl, by omega, by omega⟩
  · skip
    refine call_frz 7 ?_
    simp only [frz1, frzE, frzS, D.unown, ↓wA, ↓wC, wB, frzBE, frzBS, reduceEqDiff, reduceAdd, reduceSub, reduceIte, reduceCtorEq, Nat.reduceBEq, reduceLT, sz33]
    refine callM_rel (among_fn code k5 s5 [-1, 9999, 10000] hc (by omega) (by decide) (by decide)) rfl rfl rfl ?_
    rintro _ _ ⟨z, k6, s6, rfl, rfl, hk6, hk6', hmz⟩
    repeat' (first | (simp only [onC_true, ↓wA, ↓wC, wB, frzBE, frzBS, reduceEqDiff, reduceAdd, reduceSub, reduceIte, reduceCtorEq, Nat.reduceBEq, reduceLT, sz33]) | ((first | apply execG_split | apply execC_split | apply onPick_split) <;> intro h <;> try simp only [h]))
    exact ⟨⟨year, m, p, x, z⟩, k6, _, rfl, rfl, by omega, by omega⟩
  · skip
    repeat' (first | (simp only [onC_true, ↓wA, ↓wC, wB, frzBE, frzBS, reduceEqDiff, reduceAdd, reduceSub, reduceIte, reduceCtorEq, Nat.reduceBEq, reduceLT, sz33]) | ((first | apply execG_split | apply execC_split | apply onPick_split) <;> intro h <;> try simp only [h]))
    exact ⟨⟨year, m, p, x, g⟩, k5, _, rfl, rfl, by omega, by omega⟩
end Go.Pe.Tryd
set_option maxRecDepth 100000
set_option maxHeartbeats 4000000
set_option linter.all false
namespace Go.Pe.Tryd
open Nat (reduceEqDiff reduceAdd reduceSub reduceLT)
open Go.Proofs.Tryd
theorem ap_row (L : List Row) (x : Row) : (dl Row.d L).app (D.cons x.d .nil) = dl Row.d (L ++ [x]) := app_one (f := Row.d) L x
theorem row_size (r : Row) : r.d.size = 5 := rfl
theorem row_isV (r : Row) : r.d.isV = true := rfl
theorem nil_app : ∀ d : D, D.nil.app d = d := fun d => rfl
theorem yearRows_fn (code : List UInt8) (k : Nat) (seed : Int) (hc : code.length ≤ 1048576) (hk : k ≤ 999999990000) : FnM prog 42 true (curD code k seed) []
    (fun x' rs => ∃ (st : Int) (xs : List Row) (k' : Nat) (seed' : Int), x' = curD code k' seed' ∧ rs = [.int .i64 st, .sl false 5 (rowsD xs)] ∧ k ≤ k' ∧ k' ≤ k + 5000 ∧ xs.length ≤ 12 ∧ -1 ≤ st ∧ st ≤ 10000) := by
  refine FnM_ofg (ps := [[1, 1, 1, 1, 1, 1, 0]]) (fn := f42) (by exact func42) c42 r42 (n := 69) (by rfl) (rv := [.tmp 2, .tmp 3]) (by rfl) (by decide) (by simp) ?_
  unfold m42
  try simp only [wQ]
  simp only [ghAll, ghAt]
  repeat' (first | (simp only [onC_true, ↓wA, ↓wC, wB, frzBE, frzBS, reduceEqDiff, reduceAdd, reduceSub, reduceIte, reduceCtorEq, Nat.reduceBEq, reduceLT]) | ((first | apply execG_split | apply execC_split | apply onPick_split) <;> intro h <;> try simp only [h]))
  refine call_frz 1 ?_
  simp only [frz1, frzE, frzS, D.unown, ↓wA, ↓wC, wB, frzBE, frzBS, reduceEqDiff, reduceAdd, reduceSub, reduceIte, reduceCtorEq, Nat.reduceBEq, reduceLT]
  refine callM_rel (among_fn code k seed [0, 20, 100, 9999] hc (by omega) (by decide) (by decide)) rfl rfl rfl ?_
  rintro _ _ ⟨st, k1, s1, rfl, rfl, hk1, hk1', hmst⟩
  repeat' (first | (simp only [onC_true, ↓wA, ↓wC, wB, frzBE, frzBS, reduceEqDiff, reduceAdd, reduceSub, reduceIte, reduceCtorEq, Nat.reduceBEq, reduceLT]) | ((first | apply execG_split | apply execC_split | apply onPick_split) <;> intro h <;> try simp only [h]))
  refine call_frz 3 ?_
  simp only [frz1, frzE, frzS, D.unown, ↓wA, ↓wC, wB, frzBE, frzBS, reduceEqDiff, reduceAdd, reduceSub, reduceIte, reduceCtorEq, Nat.reduceBEq, reduceLT]
  refine callM_rel (among_fn code k1 s1 [1900, 1990, 2150] hc (by omega) (by decide) (by decide)) rfl rfl rfl ?_
  rintro _ _ ⟨yr, k2, s2, rfl, rfl, hk2, hk2', hmyr⟩
  repeat' (first | (simp only [onC_true, ↓wA, ↓wC, wB, frzBE, frzBS, reduceEqDiff, reduceAdd, reduceSub, reduceIte, reduceCtorEq, Nat.reduceBEq, reduceLT]) | ((first | apply execG_split | apply execC_split | apply onPick_split) <;> intro h <;> try simp only [h]))
  refine callM_rel (pick_fn code k2 s2 8 hc (by omega)) rfl rfl rfl ?_
  rintro _ _ ⟨n0, k3, s3, rfl, rfl, hk3, hk3', hn0, hn0'⟩
  repeat' (first | (simp only [onC_true, ↓wA, ↓wC, wB, frzBE, frzBS, reduceEqDiff, reduceAdd, reduceSub, reduceIte, reduceCtorEq, Nat.reduceBEq, reduceLT]) | ((first | apply execG_split | apply execC_split | apply onPick_split) <;> intro h <;> try simp only [h]))
  simp only [List.mem_cons, List.not_mem_nil, or_false] at hmst hmyr
  refine exec_loop (fun x : Nat × Int × List Row × Nat × Int => ⟨[(0, .ptr 0 0 []), (4, .d (.int .i64 st)), (5, .d (.sl false 5 (rowsD x.2.2.1))), (6, .d (.int .i64 x.2.1)), (7, .d (.int .i64 x.1))], [.box (curD code x.2.2.2.1 x.2.2.2.2)]⟩)
    (fun x => x.1 + x.2.2.1.length ≤ 7 ∧ 0 ≤ x.2.1 ∧ x.2.1 + 5 * x.1 ≤ 2200 ∧ k ≤ x.2.2.2.1 ∧ x.2.2.2.1 + 100 * x.1 ≤ k + 800) (fun x => x.1) (n0.toNat, yr, [], k3, s3)
    ((frzO 2 rfl).trans (weak_of _ rfl ⟨⟨rfl, rfl⟩, ⟨rfl, rfl⟩, ⟨rfl, rfl⟩, ⟨rfl, rfl⟩, ⟨by show SV.d (.int .i64 n0) = SV.d (.int .i64 (n0.toNat : Int)); rw [Int.toNat_of_nonneg hn0], rfl⟩, trivial⟩)) ⟨by simp; omega, by simp only; omega, by simp only; omega, by simp only; omega, by simp only; omega⟩ ?_
  rintro ⟨n, yr, xs, k4, s4⟩ ⟨i1, i2, i3, i4, i5⟩
  simp only at i1 i2 i3 i4 i5 ⊢
  cases n with
  | succ n =>
    have hd : decide ((0 : Int) < ((n + 1 : Nat) : Int)) = true := decide_eq_true (by omega)
    have e5 : (((n + 1 : Nat) : Int) - 1) = (n : Int) := by omega
    repeat' (first | (simp only [hd, dl_len, nil_app, onC_true, ↓wA, ↓wC, wB, frzBE, frzBS, reduceEqDiff, reduceAdd, reduceSub, reduceIte, reduceCtorEq, Nat.reduceBEq, reduceLT]) | (with_reducible refine onC_i ?_ ?_; focus omega) | (with_reducible refine onC_i ?_ ?_; focus (simp; done)) | (with_reducible refine onI_bare ?_ ?_; focus (simp only [InR]; omega)) | ((first | apply execG_split | apply execC_split | apply onPick_split) <;> intro h <;> try simp only [h]))
    refine callM_rel (yearRow_fn code k4 s4 yr hc (by omega)) rfl rfl rfl ?_
    rintro _ _ ⟨r, k5, s5, rfl, rfl, hk5, hk5'⟩
    have hG := l26Good_fn st (xs ++ [r]) (by simp only [InR]; omega) (by simp; omega)
    have hG' : Fn prog 21 [.int .i64 st, .sl false 5 (dl Row.d (xs ++ [r])).unown] (fun rs => rs = [.bool (good st (xs ++ [r]))]) := by rw [show (dl Row.d (xs ++ [r])).unown = dl Row.d (xs ++ [r]) from rows_unown _]; exact hG
    repeat' (first | (simp only [hd, Row.noOwn, row_size, row_isV, dl_len, ap_row, rows_noOwn, onC_true, ↓wA, ↓wC, wB, frzBE, frzBS, reduceEqDiff, reduceAdd, reduceSub, reduceIte, reduceCtorEq, Nat.reduceBEq, reduceLT]) | (with_reducible refine onC_i ?_ ?_; focus omega) | (with_reducible refine onC_i ?_ ?_; focus (simp; done)) | (refine call_det (hG') rfl rfl ?_) | (refine callP_det (hG') rfl rfl ?_) | ((first | apply execG_split | apply execC_split | apply onPick_split) <;> intro h <;> try simp only [h]))
    · skip
      refine call_frz 3 ?_
      simp only [frz1, frzE, frzS, D.unown, ↓wA, ↓wC, wB, frzBE, frzBS, reduceEqDiff, reduceAdd, reduceSub, reduceIte, reduceCtorEq, Nat.reduceBEq, reduceLT]
      refine callM_rel (among_fn code k5 s5 [1, 1, 2, 5] hc (by omega) (by decide) (by decide)) rfl rfl rfl ?_
      rintro _ _ ⟨z, k6, s6, rfl, rfl, hk6, hk6', hmz⟩
      simp only [List.mem_cons, List.not_mem_nil, or_false] at hmz
      repeat' (first | (simp only [onC_true, ↓wA, ↓wC, wB, frzBE, frzBS, reduceEqDiff, reduceAdd, reduceSub, reduceIte, reduceCtorEq, Nat.reduceBEq, reduceLT]) | (with_reducible refine onI_bare ?_ ?_; focus (simp only [InR]; omega)) | ((first | apply execG_split | apply execC_split | apply onPick_split) <;> intro h <;> try simp only [h]))
      rw [e5]
      exact ⟨(n, yr + z, xs ++ [r], k6, s6), (frzO 1 rfl).trans (weak_of _ rfl ⟨⟨rfl, rfl⟩, ⟨rfl, rfl⟩, ⟨by simp only [frzE, frzS, D.unown, rows_unown, ↓wA, ↓wC, wB, frzBE, frzBS, reduceEqDiff, reduceAdd, reduceSub, reduceIte, reduceCtorEq, Nat.reduceBEq, reduceLT], rfl⟩, ⟨rfl, rfl⟩, ⟨rfl, rfl⟩, trivial⟩), ⟨by simp; omega, by simp only; omega, by simp only; omega, by simp only; omega, by simp only; omega⟩, by simp⟩
    · skip
      refine callM_rel (one_fn code k5 s5 30 hc (by omega)) rfl rfl rfl ?_
      rintro _ _ ⟨b, k6, s6, rfl, rfl, hk6, hk6'⟩
      repeat' (first | (simp only [hd, onC_true, ↓wA, ↓wC, wB, frzBE, frzBS, reduceEqDiff, reduceAdd, reduceSub, reduceIte, reduceCtorEq, Nat.reduceBEq, reduceLT]) | ((first | apply execG_split | apply execC_split | apply onPick_split) <;> intro h <;> try simp only [h]))
      · skip
        refine call_frz 3 ?_
        simp only [frz1, frzE, frzS, D.unown, ↓wA, ↓wC, wB, frzBE, frzBS, reduceEqDiff, reduceAdd, reduceSub, reduceIte, reduceCtorEq, Nat.reduceBEq, reduceLT]
        refine callM_rel (among_fn code k6 s6 [1, 1, 2, 5] hc (by omega) (by decide) (by decide)) rfl rfl rfl ?_
        rintro _ _ ⟨z, k7, s7, rfl, rfl, hk7, hk7', hmz⟩
        simp only [List.mem_cons, List.not_mem_nil, or_false] at hmz
        repeat' (first | (simp only [onC_true, ↓wA, ↓wC, wB, frzBE, frzBS, reduceEqDiff, reduceAdd, reduceSub, reduceIte, reduceCtorEq, Nat.reduceBEq, reduceLT]) | (with_reducible refine onI_bare ?_ ?_; focus (simp only [InR]; omega)) | ((first | apply execG_split | apply execC_split | apply onPick_split) <;> intro h <;> try simp only [h]))
        rw [e5]
        exact ⟨(n, yr + z, xs ++ [r], k7, s7), (frzO 1 rfl).trans (weak_of _ rfl ⟨⟨rfl, rfl⟩, ⟨rfl, rfl⟩, ⟨by simp only [frzE, frzS, D.unown, rows_unown, ↓wA, ↓wC, wB, frzBE, frzBS, reduceEqDiff, reduceAdd, reduceSub, reduceIte, reduceCtorEq, Nat.reduceBEq, reduceLT], rfl⟩, ⟨rfl, rfl⟩, ⟨rfl, rfl⟩, trivial⟩), ⟨by simp; omega, by simp only; omega, by simp only; omega, by simp only; omega, by simp only; omega⟩, by simp⟩
      · skip
        refine call_frz 3 ?_
        simp only [frz1, frzE, frzS, D.unown, ↓wA, ↓wC, wB, frzBE, frzBS, reduceEqDiff, reduceAdd, reduceSub, reduceIte, reduceCtorEq, Nat.reduceBEq, reduceLT]
        refine callM_rel (among_fn code k6 s6 [1, 1, 2, 5] hc (by omega) (by decide) (by decide)) rfl rfl rfl ?_
        rintro _ _ ⟨z, k7, s7, rfl, rfl, hk7, hk7', hmz⟩
        simp only [List.mem_cons, List.not_mem_nil, or_false] at hmz
        repeat' (first | (simp only [onC_true, ↓wA, ↓wC, wB, frzBE, frzBS, reduceEqDiff, reduceAdd, reduceSub, reduceIte, reduceCtorEq, Nat.reduceBEq, reduceLT]) | (with_reducible refine onI_bare ?_ ?_; focus (simp only [InR]; omega)) | ((first | apply execG_split | apply execC_split | apply onPick_split) <;> intro h <;> try simp only [h]))
        rw [e5]
        exact ⟨(n, yr + z, xs, k7, s7), (weak_of _ rfl ⟨⟨rfl, rfl⟩, ⟨rfl, rfl⟩, ⟨rfl, rfl⟩, ⟨rfl, rfl⟩, ⟨rfl, rfl⟩, trivial⟩), ⟨by simp; omega, by simp only; omega, by simp only; omega, by simp only; omega, by simp only; omega⟩, by simp⟩
  | zero =>
    have hd : decide ((0 : Int) < ((0 : Nat) : Int)) = false := rfl
    repeat' (first | (simp only [hd, ↓wA, ↓wC, wB, frzBE, frzBS, reduceEqDiff, reduceAdd, reduceSub, reduceIte, reduceCtorEq, Nat.reduceBEq, reduceLT]) | ((first | apply execG_split | apply execC_split | apply onPick_split) <;> intro h <;> try simp only [h]))
    refine callM_rel (pick_fn code k4 s4 30 hc (by omega)) rfl rfl rfl ?_
    rintro _ _ ⟨w, k5, s5, rfl, rfl, hk5, hk5', hw, hw'⟩
    repeat' (first | (simp only [onC_true, ↓wA, ↓wC, wB, frzBE, frzBS, reduceEqDiff, reduceAdd, reduceSub, reduceIte, reduceCtorEq, Nat.reduceBEq, reduceLT]) | ((first | apply execG_split | apply execC_split | apply onPick_split) <;> intro h <;> try simp only [h]))
    · skip
      refine call_frz 1 ?_
      simp only [frz1, frzE, frzS, D.unown, ↓wA, ↓wC, wB, frzBE, frzBS, reduceEqDiff, reduceAdd, reduceSub, reduceIte, reduceCtorEq, Nat.reduceBEq, reduceLT]
      refine callM_rel (among_fn code k5 s5 [-1, 10000] hc (by omega) (by decide) (by decide)) rfl rfl rfl ?_
      rintro _ _ ⟨z, k6, s6, rfl, rfl, hk6, hk6', hmz⟩
      simp only [List.mem_cons, List.not_mem_nil, or_false] at hmz
      repeat' (first | (simp only [onC_true, ↓wA, ↓wC, wB, frzBE, frzBS, reduceEqDiff, reduceAdd, reduceSub, reduceIte, reduceCtorEq, Nat.reduceBEq, reduceLT]) | ((first | apply execG_split | apply execC_split | apply onPick_split) <;> intro h <;> try simp only [h]))
      refine exec_gh1 (Weak.refl _) ?_
      have hno := rows_noOwn xs
      repeat' (first | (simp only [hno, onC_true, ↓wA, ↓wC, wB, frzBE, frzBS, reduceEqDiff, reduceAdd, reduceSub, reduceIte, reduceCtorEq, Nat.reduceBEq, reduceLT]) | ((first | apply execG_split | apply execC_split | apply onPick_split) <;> intro h <;> try simp only [h]))
      exact ⟨z, xs, k6, s6, rfl, rfl, by omega, by omega, by omega, by omega, by omega⟩
    · have hap : ∀ (L : List Row) (n : Int), (dl Row.d L).app (D.cons (.st (.cons (.int .i64 n) (.cons (.int .i64 1) (.cons (.int .i64 0) (.cons (.int .i64 0) (.cons (.int .i64 0) .nil)))))) .nil) = dl Row.d (L ++ [⟨n, 1, 0, 0, 0⟩]) := fun L n => app_one (f := Row.d) L ⟨n, 1, 0, 0, 0⟩
      refine exec_loop (fun x : Nat × List Row × Nat × Int => ⟨[(0, .ptr 0 0 []), (4, .d (.int .i64 st)), (5, .own 1), (9, .d (.int .i64 x.1))], [.box (curD code x.2.2.1 x.2.2.2), .val (.sl true 5 (dl Row.d x.2.1))]⟩)
        (fun x => x.1 ≤ 11 ∧ x.2.1.length = x.1 ∧ k ≤ x.2.2.1 ∧ x.2.2.1 ≤ k + 900 + 2 * x.1) (fun x => 20 - x.1) (0, [], k5, s5) (weak_of _ rfl ⟨⟨rfl, rfl⟩, ⟨rfl, rfl⟩, ⟨rfl, rfl⟩, ⟨rfl, rfl⟩, trivial⟩) ⟨by simp, by simp, by simp; omega, by simp; omega⟩ ?_
      rintro ⟨j, ys, k6, s6⟩ ⟨j1, j2, j3, j4⟩
      simp only at j1 j2 j3 j4 ⊢
      repeat' (first | (simp only [onC_true, ↓wA, ↓wC, wB, frzBE, frzBS, reduceEqDiff, reduceAdd, reduceSub, reduceIte, reduceCtorEq, Nat.reduceBEq, reduceLT]) | ((first | apply execG_split | apply execC_split | apply onPick_split) <;> intro h <;> try simp only [h]))
      refine callM_rel (pick_fn code k6 s6 2 hc (by omega)) rfl rfl rfl ?_
      rintro _ _ ⟨q, k7, s7, rfl, rfl, hk7, hk7', hq, hq'⟩
      repeat' (first | (simp only [dl_len, hap, onC_true, ↓wA, ↓wC, wB, frzBE, frzBS, reduceEqDiff, reduceAdd, reduceSub, reduceIte, reduceCtorEq, Nat.reduceBEq, reduceLT]) | (with_reducible refine onC_i ?_ ?_; focus omega) | (with_reducible refine onC_i ?_ ?_; focus (simp; done)) | (with_reducible refine onI_bare ?_ ?_; focus (simp only [InR]; omega)) | ((first | apply execG_split | apply execC_split | apply onPick_split) <;> intro h <;> try simp only [h]))
      · have hlt := of_decide_eq_true (show decide ((j : Int) < 10 + q) = true by assumption)
        exact ⟨(j + 1, ys ++ [⟨2000 + (j : Int), 1, 0, 0, 0⟩], k7, s7), (weak_of _ rfl ⟨⟨rfl, rfl⟩, ⟨rfl, rfl⟩, ⟨rfl, rfl⟩, ⟨rfl, rfl⟩, trivial⟩), ⟨by simp; omega, by simp; omega, by simp; omega, by simp; omega⟩, by simp; omega⟩
      · refine exec_gh1 (frzO 1 rfl) ?_
        have hno := rows_noOwn ys
        simp only [frzE, frzS, D.unown, rows_unown, ↓wA, ↓wC, wB, frzBE, frzBS, reduceEqDiff, reduceAdd, reduceSub, reduceIte, reduceCtorEq, Nat.reduceBEq, reduceLT]
        repeat' (first | (simp only [hno, onC_true, ↓wA, ↓wC, wB, frzBE, frzBS, reduceEqDiff, reduceAdd, reduceSub, reduceIte, reduceCtorEq, Nat.reduceBEq, reduceLT]) | ((first | apply execG_split | apply execC_split | apply onPick_split) <;> intro h <;> try simp only [h]))
        all_goals exact ⟨st, ys, k7, s7, rfl, rfl, by omega, by omega, by omega, by omega, by omega⟩
    · refine exec_gh1 (Weak.refl _) ?_
      have hno := rows_noOwn xs
      repeat' (first | (simp only [hno, onC_true, ↓wA, ↓wC, wB, frzBE, frzBS, reduceEqDiff, reduceAdd, reduceSub, reduceIte, reduceCtorEq, Nat.reduceBEq, reduceLT]) | ((first | apply execG_split | apply execC_split | apply onPick_split) <;> intro h <;> try simp only [h]))
      exact ⟨st, xs, k5, s5, rfl, rfl, by omega, by omega, by omega, by omega, by omega⟩
def drawnR (st : Int) (xs : List Row) : Prop := xs.length ≤ 12 ∧ -1 ≤ st ∧ st ≤ 10000
theorem drawRows_fn (code : List UInt8) (hc : code.length ≤ 1048576) : Fn prog 19 [.sl false 1 (bytesD code)] (fun rs => ∃ (st : Int) (xs : List Row), rs = [.int .i64 st, .sl false 5 (rowsD xs)] ∧ drawnR st xs) := by
  refine Fn_of' (fn := f19) (by exact func19) c19 r19 (n := 17) (by rfl) (rv := [.tmp 2, .tmp 3]) (by rfl) (by simp) ?_
  unfold m19
  try simp only [wQ]
  repeat' (first | (simp only [onC_true, bytes_noOwn, ↓wA, ↓wC, wB, frzBE, frzBS, reduceEqDiff, reduceAdd, reduceSub, reduceIte, reduceCtorEq, Nat.reduceBEq, reduceLT]) | ((first | apply execG_split | apply execC_split | apply onPick_split) <;> intro h <;> try simp only [h]))
  refine callM_rel (yearRows_fn code 0 0 hc (by omega)) rfl rfl rfl ?_
  rintro _ _ ⟨st, xs, k1, s1, rfl, rfl, hk1, hk1', hxl, hs1, hs2⟩
  have hno := rows_noOwn xs
  repeat' (first | (simp only [hno, onC_true, ↓wA, ↓wC, wB, frzBE, frzBS, reduceEqDiff, reduceAdd, reduceSub, reduceIte, reduceCtorEq, Nat.reduceBEq, reduceLT]) | ((first | apply execG_split | apply execC_split | apply onPick_split) <;> intro h <;> try simp only [h]))
  exact ⟨st, xs, rfl, hxl, hs1, hs2⟩
end Go.Pe.Tryd
set_option maxRecDepth 100000
set_option maxHeartbeats 4000000
set_option linter.all false
namespace Go.Pe.Tryd
open Nat (reduceEqDiff reduceAdd reduceSub reduceLT)
open Go.Proofs.Tryd Go.Sort
end Go.Pe.Tryd
set_option maxRecDepth 100000
set_option maxHeartbeats 4000000
set_option linter.all false
namespace Go.Pe.Tryd
open Nat (reduceEqDiff reduceAdd reduceSub reduceLT)
open Go.Proofs.Tryd Go.Sort
end Go.Pe.Tryd
set_option maxRecDepth 100000
set_option maxHeartbeats 4000000
set_option linter.all false
namespace Go.Pe.Tryd
open Nat (reduceEqDiff reduceAdd reduceSub reduceLT)
open Go.Proofs.Tryd Go.Sort
end Go.Pe.Tryd
set_option maxRecDepth 100000
set_option maxHeartbeats 4000000
set_option linter.all false
namespace Go.Pe.Tryd
open Nat (reduceEqDiff reduceAdd reduceSub reduceLT)
open Go.Proofs.Tryd Go.Sort
end Go.Pe.Tryd
set_option maxRecDepth 100000
set_option maxHeartbeats 4000000
set_option linter.all false
namespace Go.Pe.Tryd
open Nat (reduceEqDiff reduceAdd reduceSub reduceLT)
open Go.Proofs.Tryd Go.Sort
structure Digs (k : Int) (p : Int × List UInt8) : Prop where
  lo : 0 ≤ p.1
  hi : p.1 ≤ k
  len : p.2.length ≤ 21
  eq : Lib.decDigits k.toNat = if p.1 = 0 then p.2 else Lib.decDigits p.1.toNat ++ p.2
theorem Digs.start {k : Int} (h : 0 < k) : Digs k (k, []) := ⟨by show 0 ≤ k; omega, by show k ≤ k; omega, by simp, by simp only; rw [if_neg (by omega)]; simp⟩
theorem Digs.next {k : Int} {p : Int × List UInt8} (hk : k ≤ 1000000) (h : Digs k p) (hp : 0 < p.1) : Digs k (p.1 / 10, UInt8.ofNat (48 + (p.1 % 10).toNat) :: p.2) := by
  obtain ⟨n, s⟩ := p
  have h0 : (0 : Int) < n := hp
  obtain ⟨m, rfl⟩ := Int.eq_ofNat_of_zero_le (show (0 : Int) ≤ n by omega)
  have he := h.eq
  have hh := h.hi
  simp only at he hh ⊢
  rw [if_neg (by omega), Int.toNat_natCast] at he
  have hmd : ((m : Int) % 10).toNat = m % 10 := by omega
  have hdv : ((m : Int) / 10).toNat = m / 10 := by omega
  have key : Lib.decDigits k.toNat = if (m : Int) / 10 = 0 then UInt8.ofNat (48 + m % 10) :: s else Lib.decDigits (m / 10) ++ UInt8.ofNat (48 + m % 10) :: s := by
    rw [he]
    by_cases h10 : m < 10
    · rw [decDigits_small h10, if_pos (by omega), show m % 10 = m by omega]; rfl
    · rw [decDigits_more h10, if_neg (by omega)]; simp
  have hl := decDigits_le k.toNat (by omega)
  refine ⟨by show (0 : Int) ≤ (m : Int) / 10; omega, by show (m : Int) / 10 ≤ k; omega, ?_, by simp only [hmd, hdv]; exact key⟩
  rw [key] at hl
  simp only [hmd]
  split at hl
  · exact hl
  · rw [List.length_append] at hl; omega
theorem Digs.done {k : Int} {p : Int × List UInt8} (h : Digs k p) (hp : ¬ 0 < p.1) : Lib.decDigits k.toNat = p.2 := by
  have := h.lo
  rw [h.eq, if_pos (by omega)]
end Go.Pe.Tryd
set_option maxRecDepth 100000
set_option maxHeartbeats 4000000
set_option linter.all false
namespace Go.Pe.Tryd
open Nat (reduceEqDiff reduceAdd reduceSub reduceLT)
open Go.Proofs.Tryd Go.Sort
end Go.Pe.Tryd
set_option maxRecDepth 100000
set_option maxHeartbeats 4000000
set_option linter.all false
namespace Go.Pe.Tryd
open Nat (reduceEqDiff reduceAdd reduceSub reduceLT)
def Cut (s q : List UInt8) : Prop := ∃ (j : Nat) (t : List UInt8), q = s.take j ++ t ∧ (10 : UInt8) ∉ t
end Go.Pe.Tryd
set_option maxRecDepth 100000
set_option maxHeartbeats 4000000
set_option linter.all false
namespace Go.Pe.Tryd
open Nat (reduceEqDiff reduceAdd reduceSub reduceLT)
open Go.Proofs.Tryd
theorem spoilt_fn (code : List UInt8) (k : Nat) (seed : Int) (t w : List UInt8) (hc : code.length ≤ 1048576) (hk : k ≤ 999999999900) (ht : t.length ≤ 100000000) (hw : 0 < w.length) (hw2 : w.length ≤ 1000) : FnM prog 36 true (curD code k seed) [.str t, .str w]
    (fun x' rs => ∃ (s : List UInt8) (k' : Nat) (seed' : Int), x' = curD code k' seed' ∧ rs = [.str s] ∧ k ≤ k' ∧ k' ≤ k + 6 ∧ s.length ≤ t.length + 1) := by
  by_cases h0 : t = []
  · have hd : decide (t = []) = true := decide_eq_true h0
    refine FnM_of' (fn := f36) (by exact func36) c36 r36 (n := 57) (by rfl) (rv := [.tmp 6]) (by rfl) (by decide) (by simp) ?_
    unfold m36
    try simp only [wQ]
    repeat' (first | (simp only [hd, onC_true, ↓wA, ↓wC, wB, frzBE, frzBS, reduceEqDiff, reduceAdd, reduceSub, reduceIte, reduceCtorEq, Nat.reduceBEq, reduceLT]) | (with_reducible refine onC_i ?_ ?_; focus omega) | ((first | apply execG_split | apply execC_split | apply onPick_split) <;> intro h <;> try simp only [h]))
    exact ⟨_, k, seed, rfl, rfl, by omega, by omega, by rw [List.length_take]; omega⟩
  · have hd : decide (t = []) = false := decide_eq_false h0
    have hl0 : 0 < t.length := List.length_pos_iff.2 h0
    refine FnM_of' (fn := f36) (by exact func36) c36 r36 (n := 57) (by rfl) (rv := [.tmp 6]) (by rfl) (by decide) (by simp) ?_
    unfold m36
    try simp only [wQ]
    repeat' (first | (simp only [hd, onC_true, ↓wA, ↓wC, wB, frzBE, frzBS, reduceEqDiff, reduceAdd, reduceSub, reduceIte, reduceCtorEq, Nat.reduceBEq, reduceLT]) | ((first | apply execG_split | apply execC_split | apply onPick_split) <;> intro h <;> try simp only [h]))
    refine callM_rel (pick_fn code k seed t.length hc (by omega)) rfl rfl rfl ?_
    rintro _ _ ⟨i, k1, s1, rfl, rfl, hk1, hk1', hi, hi'⟩
    repeat' (first | (simp only [onC_true, ↓wA, ↓wC, wB, frzBE, frzBS, reduceEqDiff, reduceAdd, reduceSub, reduceIte, reduceCtorEq, Nat.reduceBEq, reduceLT]) | ((first | apply execG_split | apply execC_split | apply onPick_split) <;> intro h <;> try simp only [h]))
    refine callM_rel (pick_fn code k1 s1 w.length hc (by omega)) rfl rfl rfl ?_
    rintro _ _ ⟨j, k2, s2, rfl, rfl, hk2, hk2', hj, hj'⟩
    have hdl : 1 ≤ (w.drop j.toNat).length := by rw [List.length_drop]; omega
    have h1l : ((w.drop j.toNat).take 1).length ≤ 1 := by rw [List.length_take]; omega
    repeat' (first | (simp only [onC_true, ↓wA, ↓wC, wB, frzBE, frzBS, reduceEqDiff, reduceAdd, reduceSub, reduceIte, reduceCtorEq, Nat.reduceBEq, reduceLT]) | (with_reducible refine onC_i ?_ ?_; focus omega) | ((first | apply execG_split | apply execC_split | apply onPick_split) <;> intro h <;> try simp only [h]))
    generalize hS : (w.drop j.toNat).take (1 : Int).toNat = q
    have hq : q.length ≤ 1 := by rw [← hS, List.length_take]; show min 1 _ ≤ 1; omega
    refine callM_rel (pick_fn code k2 s2 3 hc (by omega)) rfl rfl rfl ?_
    rintro _ _ ⟨m, k3, s3, rfl, rfl, hk3, hk3', hm, hm'⟩
    have l1 : (t.take i.toNat).length = i.toNat := by rw [List.length_take]; omega
    have l2 : (t.drop i.toNat).length = t.length - i.toNat := by rw [List.length_drop]
    have l3 : (t.drop (i + 1).toNat).length = t.length - (i.toNat + 1) := by rw [List.length_drop]; omega
    repeat' (first | (simp only [onC_true, ↓wA, ↓wC, wB, frzBE, frzBS, reduceEqDiff, reduceAdd, reduceSub, reduceIte, reduceCtorEq, Nat.reduceBEq, reduceLT]) | (with_reducible refine onC_i ?_ ?_; focus omega) | (with_reducible refine onC_i ?_ ?_; focus (simp only [List.length_append]; omega)) | (with_reducible refine onI_bare ?_ ?_; focus (simp only [InR]; omega)) | ((first | apply execG_split | apply execC_split | apply onPick_split) <;> intro h <;> try simp only [h]))
    all_goals exact ⟨_, k3, s3, rfl, rfl, by omega, by omega, by simp only [List.length_append]; omega⟩
end Go.Pe.Tryd
set_option maxRecDepth 100000
set_option maxHeartbeats 4000000
set_option linter.all false
namespace Go.Pe.Tryd
open Nat (reduceEqDiff reduceAdd reduceSub reduceLT)
open Go.Proofs.Tryd
end Go.Pe.Tryd
set_option maxRecDepth 100000
set_option maxHeartbeats 4000000
set_option linter.all false
namespace Go.Pe.Tryd
open Nat (reduceEqDiff reduceAdd reduceSub reduceLT)
open Go.Proofs.Tryd
end Go.Pe.Tryd
set_option maxRecDepth 100000
set_option maxHeartbeats 4000000
set_option linter.all false
namespace Go.Pe.Tryd
open Nat (reduceEqDiff reduceAdd reduceSub reduceLT)
open Go.Proofs.Tryd
end Go.Pe.Tryd
set_option maxRecDepth 100000
set_option maxHeartbeats 4000000
set_option linter.all false
namespace Go.Pe.Tryd
open Nat (reduceEqDiff reduceAdd reduceSub reduceLT)
open Go.Proofs.Tryd
end Go.Pe.Tryd
set_option maxRecDepth 100000
set_option maxHeartbeats 4000000
set_option linter.all false
namespace Go.Pe.Tryd
open Nat (reduceEqDiff reduceAdd reduceSub reduceLT)
open Go.Proofs.Tryd
theorem specRestsAfter_fn (stock : Int) (xs : List Row) (hs : InR .i64 stock) (hlen : xs.length ≤ 1048576) : Fn prog 7 [.int .i64 stock, .sl false 5 (rowsD xs)] (fun rs => rs = restsR stock xs) := by
  refine Fn_of' (fn := f7) (by exact func7) c7 r7 (n := 14) (by rfl) (rv := [.tmp 4, .tmp 5]) (by rfl) (by simp) ?_
  unfold m7
  try simp only [wQ]
  try simp only [↓wA, ↓wC, wB, frzBE, frzBS, reduceEqDiff, reduceAdd, reduceSub, reduceIte, reduceCtorEq, Nat.reduceBEq, reduceLT]
  refine call_det (l26Good_fn stock xs hs hlen) rfl rfl ?_
  try simp only [↓wA, ↓wC, wB, frzBE, frzBS, reduceEqDiff, reduceAdd, reduceSub, reduceIte, reduceCtorEq, Nat.reduceBEq, reduceLT]
  cases hg : good stock xs with
  | false =>
    try simp only [↓wA, ↓wC, wB, frzBE, frzBS, reduceEqDiff, reduceAdd, reduceSub, reduceIte, reduceCtorEq, Nat.reduceBEq, reduceLT]
    simp [restsR, hg, dl, ofL]
  | true =>
    try simp only [↓wA, ↓wC, wB, frzBE, frzBS, reduceEqDiff, reduceAdd, reduceSub, reduceIte, reduceCtorEq, Nat.reduceBEq, reduceLT]
    refine call_det (l26Rests_fn stock xs hg) rfl rfl ?_
    try simp only [ints_noOwn, ↓wA, ↓wC, wB, frzBE, frzBS, reduceEqDiff, reduceAdd, reduceSub, reduceIte, reduceCtorEq, Nat.reduceBEq, reduceLT]
    simp [restsR, hg]
theorem implRestsAfter_fn (stock : Int) (xs : List Row) (hlen : xs.length ≤ 1048576) : Fn prog 6 [.int .i64 stock, .sl false 5 (rowsD xs)] (fun rs => rs = restsR stock xs) := by
  refine Fn_of' (fn := f6) (by exact func6) c6 r6 (n := 11) (by rfl) (rv := [.tmp 4, .tmp 5]) (by rfl) (by simp) ?_
  unfold m6
  try simp only [wQ]
  try simp only [↓wA, ↓wC, wB, frzBE, frzBS, reduceEqDiff, reduceAdd, reduceSub, reduceIte, reduceCtorEq, Nat.reduceBEq, reduceLT]
  refine call_det (restsAfter_fn stock xs hlen) rfl rfl ?_
  cases hg : good stock xs with
  | false =>
    try simp only [restsR, hg, ints_noOwn, ↓wA, ↓wC, wB, frzBE, frzBS, reduceEqDiff, reduceAdd, reduceSub, reduceIte, reduceCtorEq, Nat.reduceBEq, reduceLT]
  | true =>
    try simp only [restsR, hg, ints_noOwn, ↓wA, ↓wC, wB, frzBE, frzBS, reduceEqDiff, reduceAdd, reduceSub, reduceIte, reduceCtorEq, Nat.reduceBEq, reduceLT]
end Go.Pe.Tryd
set_option maxRecDepth 100000
set_option maxHeartbeats 4000000
set_option linter.all false
namespace Go.Pe.Tryd
open Nat (reduceEqDiff reduceAdd reduceSub reduceLT)
open Go.Proofs.Tryd
theorem rBig_fn (code : List UInt8) : Fn prog 4 [.sl false 1 (bytesD code)] (fun rs => rs = [.bool (decide ((65536 : Int) < (code.length : Int)))]) := by
  refine Fn_of' (fn := f4) (by exact func4) c4 r4 (n := 6) (by rfl) (rv := [.tmp 2]) (by rfl) (by simp) ?_
  unfold m4
  try simp only [wQ]
  repeat' (first | (simp only [bytesD_len, ↓wA, ↓wC, wB, frzBE, frzBS, reduceEqDiff, reduceAdd, reduceSub, reduceIte, reduceCtorEq, Nat.reduceBEq, reduceLT]) | ((first | apply execG_split | apply execC_split | apply onPick_split) <;> intro h <;> try simp only [h]))
theorem rInts_refl (v : List Int) (hlen : v.length ≤ 1048576) : Fn prog 8 [.sl false 1 (dl iD v), .sl false 1 (dl iD v)] (fun rs => rs = [.bool true]) := by
  refine Fn_of' (fn := f8) (by exact func8) c8 r8 (n := 26) (by rfl) (rv := [.tmp 4]) (by rfl) (by simp) ?_
  unfold m8
  try simp only [wQ]
  repeat' (first | (simp only [dl_len, ↓wA, ↓wC, wB, frzBE, frzBS, reduceEqDiff, reduceAdd, reduceSub, reduceIte, reduceCtorEq, Nat.reduceBEq, reduceLT]) | ((first | apply execG_split | apply execC_split | apply onPick_split) <;> intro h <;> try simp only [h]))
  refine exec_range v.length (fun i : Nat => ⟨[(0, .d (.sl false 1 (dl iD v))), (1, .d (.sl false 1 (dl iD v))), (5, .d (.int .i64 i))], []⟩) (fun _ => True) (weak_of _ rfl ⟨⟨rfl, rfl⟩, ⟨rfl, rfl⟩, ⟨rfl, rfl⟩, trivial⟩) trivial ?_ ?_
  · intro i hlt _ hd h0
    obtain ⟨r, hr⟩ := get_lt hlt
    repeat' (first | (simp only [dl_len, dl_nth, hd, Int.toNat_natCast, hr, Option.map_some, h0, onC_true, ↓rd_iD, ↓wA, ↓wC, wB, frzBE, frzBS, reduceEqDiff, reduceAdd, reduceSub, reduceIte, reduceCtorEq, Nat.reduceBEq, reduceLT]) | (with_reducible refine onI_bare ?_ ?_; focus (simp only [InR]; omega)) | ((first | apply execG_split | apply execC_split | apply onPick_split) <;> intro h <;> try simp only [h]))
    exact ⟨i + 1, (weak_of _ rfl ⟨⟨rfl, rfl⟩, ⟨rfl, rfl⟩, ⟨rfl, rfl⟩, trivial⟩), by omega, by omega⟩
  · intro _ hd
    repeat' (first | (simp only [dl_len, hd, ↓wA, ↓wC, wB, frzBE, frzBS, reduceEqDiff, reduceAdd, reduceSub, reduceIte, reduceCtorEq, Nat.reduceBEq, reduceLT]) | ((first | apply execG_split | apply execC_split | apply onPick_split) <;> intro h <;> try simp only [h]))
end Go.Pe.Tryd
set_option maxRecDepth 100000
set_option maxHeartbeats 2000000
set_option linter.all false
namespace Go.Pe.Tryd
open Nat (reduceEqDiff reduceAdd reduceSub reduceLT)
theorem rests_last : ∀ (xs : List Row) (st : Int) (i : Nat) (r : Row) (v : Int), xs[i]? = some r → (rests st xs)[i]? = some v → v = (st :: rests st xs).getD i 0 + r.m - r.gone
  | [], _, _, _, _, h, _ => by simp at h
  | x :: xs, st, 0, r, v, h1, h2 => by
    simp only [rests, List.getElem?_cons_zero, Option.some.injEq] at h1 h2
    subst h1
    rw [← h2]
    rfl
  | x :: xs, st, i + 1, r, v, h1, h2 => by
    have h := rests_last xs (st + x.m - x.gone) i r v (by simpa using h1) (by simpa [rests] using h2)
    rw [h]
    simp [rests]
theorem rests_next {st : Int} {xs : List Row} {i : Nat} {v : Int} (h : (rests st xs)[i]? = some v) : (st :: rests st xs).getD (i + 1) 0 = v := by
  simp [List.getD_eq_getElem?_getD, h]
def canon (r : Row) : Row := ⟨r.y, r.m, min (r.k + r.g) 9999, r.x, r.k + r.g - min (r.k + r.g) 9999⟩
theorem canon_gone (r : Row) : (canon r).gone = r.gone := by
  simp only [Row.gone, canon]; omega
theorem canon_yl (r : Row) : yl (canon r) = yl r := by
  have h := canon_gone r
  unfold yl ylB ylX
  rw [h]
  rfl
theorem canon_ok {r : Row} (h : r.ok = true) : (canon r).ok = true ∧ (canon r).canon := by
  have hb := ok_bounds h
  refine ⟨?_, ?_⟩
  · obtain ⟨h1, h2, h3, h4, h5, h6, h7, h8, h9, h10⟩ := hb
    simp only [Row.ok, canon, isCount, within, Bool.and_eq_true, decide_eq_true_eq]
    refine ⟨⟨decide_eq_true h1, decide_eq_true h2⟩, ⟨decide_eq_true h3, decide_eq_true h4⟩, ⟨decide_eq_true ?_, decide_eq_true ?_⟩, ⟨decide_eq_true h7, decide_eq_true h8⟩, decide_eq_true ?_, decide_eq_true ?_⟩ <;> omega
  · simp only [Row.canon, canon]; omega
theorem parse_line {r : Row} (h : r.ok = true) : pyR (yl r) = [.int .i64 r.y, .int .i64 r.m, .int .i64 r.gone, .bool true] := by
  obtain ⟨h1, h2⟩ := canon_ok h
  obtain ⟨e1, e2⟩ := pyR_of h1 h2 (canon_yl r)
  rw [pyR, if_pos e2, e1, canon_gone]
  rfl
theorem itoa_cnt {n : Int} (h : 0 ≤ n) : (Lib.itoa n).count 10 = 0 := List.count_eq_zero.2 (itoa_no n h 10 (by decide))
theorem yl_cnt {r : Row} (h : r.ok = true) : (yl r).count 10 = 0 := by
  have hb := ok_bounds h
  have hg : 0 ≤ r.gone := by unfold Row.gone; omega
  unfold yl ylB ylX
  split <;> simp [List.count_append, List.count_cons, itoa_cnt, hb.1, hb.2.2.1, hb.2.2.2.2.2.2.1, hg, show 0 ≤ r.y by omega]
theorem rl_cnt {r : Row} {v : Int} (h : r.ok = true) (hv : 0 ≤ v) : (rl (r, v)).count 10 = 1 := by
  unfold rl
  simp [List.count_append, List.count_cons, itoa_cnt hv, yl_cnt h]
theorem rtx_cnt {stock : Int} {xs : List Row} (hg : good stock xs = true) : (rtx stock xs xs.length).count 10 = xs.length := by
  have hp := good_parts hg
  have hz : ∀ i, i ≤ xs.length → (rtx stock xs i).count 10 = i := by
    intro i
    induction i with
    | zero =>
      intro _
      simp [rtx, List.count_append, List.count_cons, itoa_cnt hp.1]
    | succ i ih =>
      intro hi
      obtain ⟨r, hr⟩ := get_lt (show i < xs.length by omega)
      obtain ⟨v, hv⟩ := get_lt (show i < (rests stock xs).length by rw [rests_len]; omega)
      rw [rtx_step hr hv, List.count_append, ih (by omega), rl_cnt (good_ok hg hr) (good_rest hg hv).1]
  exact hz _ (Nat.le_refl _)
def repR (stock : Int) (xs : List Row) : List UInt8 := if good stock xs = true then rtx stock xs xs.length else []
theorem count_snoc {s : List UInt8} {i : Nat} {b : UInt8} (h : s[i]? = some b) : ((s.take (i + 1)).count 10 : Int) = (s.take i).count 10 + (if b = 10 then 1 else 0) := by
  have e : s.take (i + 1) = s.take i ++ [b] := by
    have hlt := lt_of_get h
    rw [List.take_succ, h]
    rfl
  rw [e, List.count_append]
  by_cases hb : b = 10
  · subst hb; simp
  · simp [List.count_cons, hb]
end Go.Pe.Tryd
set_option maxRecDepth 100000
set_option maxHeartbeats 2000000
set_option linter.all false
namespace Go.Pe.Tryd
open Nat (reduceEqDiff reduceAdd reduceSub reduceLT)
open Go.Proofs.Tryd
theorem yDrawRestsAfter_fn (code : List UInt8) (hc : code.length ≤ 1048576) : Fn prog 5 [.sl false 1 (bytesD code)] (fun rs => ∃ (st : Int) (xs : List Row), rs = [.int .i64 st, .sl false 5 (rowsD xs)] ∧ drawnR st xs) := by
  refine Fn_of' (fn := f5) (by exact func5) c5 r5 (n := 13) (by rfl) (rv := [.tmp 2, .tmp 3]) (by rfl) (by simp) ?_
  unfold m5
  try simp only [wQ]
  repeat' (first | (simp only [onC_true, bytes_noOwn, ↓wA, ↓wC, wB, frzBE, frzBS, reduceEqDiff, reduceAdd, reduceSub, reduceIte, reduceCtorEq, Nat.reduceBEq, reduceLT, sz33]) | ((first | apply execG_split | apply execC_split | apply onPick_split) <;> intro h <;> try simp only [h]))
  refine call_rel (drawRows_fn code hc) rfl fun rs h => ?_
  obtain ⟨st, xs, rfl, hx⟩ := h
  have hno := rows_noOwn xs
  refine ⟨.inl rfl, ?_⟩
  repeat' (first | (simp only [hno, onC_true, ↓wA, ↓wC, wB, frzBE, frzBS, reduceEqDiff, reduceAdd, reduceSub, reduceIte, reduceCtorEq, Nat.reduceBEq, reduceLT, sz33]) | ((first | apply execG_split | apply execC_split | apply onPick_split) <;> intro h <;> try simp only [h]))
  exact ⟨st, xs, rfl, hx⟩
theorem drawIsRow_fn (code : List UInt8) (hc : code.length ≤ 1048576) : Fn prog 23 [.sl false 1 (bytesD code)] (fun rs => ∃ r : Row, rs = [r.d]) := by
  refine Fn_of' (fn := f23) (by exact func23) c23 r23 (n := 12) (by rfl) (rv := [.cell 2 33]) (by rfl) (by simp) ?_
  unfold m23
  try simp only [wQ]
  repeat' (first | (simp only [onC_true, bytes_noOwn, ↓wA, ↓wC, wB, frzBE, frzBS, reduceEqDiff, reduceAdd, reduceSub, reduceIte, reduceCtorEq, Nat.reduceBEq, reduceLT, sz33]) | ((first | apply execG_split | apply execC_split | apply onPick_split) <;> intro h <;> try simp only [h]))
  refine call_frz 2 ?_
  simp only [frz1, frzE, frzS, D.unown, ↓wA, ↓wC, wB, frzBE, frzBS, reduceEqDiff, reduceAdd, reduceSub, reduceIte, reduceCtorEq, Nat.reduceBEq, reduceLT, sz33]
  refine callM_rel (among_fn code 0 0 [1900, 2000, 2200] hc (by omega) (by decide) (by decide)) rfl rfl rfl ?_
  rintro _ _ ⟨y, k1, s1, rfl, rfl, hk1, hk1', hmy⟩
  repeat' (first | (simp only [onC_true, ↓wA, ↓wC, wB, frzBE, frzBS, reduceEqDiff, reduceAdd, reduceSub, reduceIte, reduceCtorEq, Nat.reduceBEq, reduceLT, sz33]) | ((first | apply execG_split | apply execC_split | apply onPick_split) <;> intro h <;> try simp only [h]))
  refine callM_rel (yearRow_fn code k1 s1 y hc (by omega)) rfl rfl rfl ?_
  rintro _ _ ⟨r, k2, s2, rfl, rfl, hk2, hk2'⟩
  repeat' (first | (simp only [Row.d, onC_true, ↓wA, ↓wC, wB, frzBE, frzBS, reduceEqDiff, reduceAdd, reduceSub, reduceIte, reduceCtorEq, Nat.reduceBEq, reduceLT, sz33]) | ((first | apply execG_split | apply execC_split | apply onPick_split) <;> intro h <;> try simp only [h]))
  exact ⟨r, rfl⟩
theorem drawLine_fn (code : List UInt8) (hc : code.length ≤ 1048576) : Fn prog 10 [.sl false 1 (bytesD code)] (fun rs => ∃ r : Row, rs = [r.d]) := by
  refine Fn_of' (fn := f10) (by exact func10) c10 r10 (n := 5) (by rfl) (rv := [.cell 2 33]) (by rfl) (by simp) ?_
  unfold m10
  try simp only [wQ]
  repeat' (first | (simp only [onC_true, bytes_noOwn, ↓wA, ↓wC, wB, frzBE, frzBS, reduceEqDiff, reduceAdd, reduceSub, reduceIte, reduceCtorEq, Nat.reduceBEq, reduceLT, sz33]) | ((first | apply execG_split | apply execC_split | apply onPick_split) <;> intro h <;> try simp only [h]))
  refine call_rel (drawIsRow_fn code hc) rfl fun rs h => ?_
  obtain ⟨r, rfl⟩ := h
  refine ⟨.inl rfl, ?_⟩
  repeat' (first | (simp only [Row.d, onC_true, ↓wA, ↓wC, wB, frzBE, frzBS, reduceEqDiff, reduceAdd, reduceSub, reduceIte, reduceCtorEq, Nat.reduceBEq, reduceLT, sz33]) | ((first | apply execG_split | apply execC_split | apply onPick_split) <;> intro h <;> try simp only [h]))
  exact ⟨r, rfl⟩
theorem ylR_form (r : Row) : ∃ s b, ylR r = [.str s, .bool b] ∧ s.length ≤ 130 := by
  unfold ylR
  split
  · rename_i h
    exact ⟨_, _, rfl, yl_le h⟩
  · exact ⟨[], false, rfl, by decide⟩
theorem drawParse_fn (code : List UInt8) (hc : code.length ≤ 1048576) : Fn prog 15 [.sl false 1 (bytesD code)] (fun rs => ∃ s : List UInt8, rs = [.str s] ∧ s.length ≤ 1000) := by
  refine Fn_of' (fn := f15) (by exact func15) c15 r15 (n := 24) (by rfl) (rv := [.tmp 2]) (by rfl) (by simp) ?_
  unfold m15
  try simp only [wQ]
  repeat' (first | (simp only [onC_true, bytes_noOwn, ↓wA, ↓wC, wB, frzBE, frzBS, reduceEqDiff, reduceAdd, reduceSub, reduceIte, reduceCtorEq, Nat.reduceBEq, reduceLT, sz33]) | ((first | apply execG_split | apply execC_split | apply onPick_split) <;> intro h <;> try simp only [h]))
  refine call_frz 1 ?_
  simp only [frz1, frzE, frzS, D.unown, ↓wA, ↓wC, wB, frzBE, frzBS, reduceEqDiff, reduceAdd, reduceSub, reduceIte, reduceCtorEq, Nat.reduceBEq, reduceLT, sz33]
  refine callM_rel (among_fn code 0 0 [1900, 2000, 2200] hc (by omega) (by decide) (by decide)) rfl rfl rfl ?_
  rintro _ _ ⟨y, k1, s1, rfl, rfl, hk1, hk1', hmy⟩
  repeat' (first | (simp only [onC_true, ↓wA, ↓wC, wB, frzBE, frzBS, reduceEqDiff, reduceAdd, reduceSub, reduceIte, reduceCtorEq, Nat.reduceBEq, reduceLT, sz33]) | ((first | apply execG_split | apply execC_split | apply onPick_split) <;> intro h <;> try simp only [h]))
  refine callM_rel (yearRow_fn code k1 s1 y hc (by omega)) rfl rfl rfl ?_
  rintro _ _ ⟨r, k2, s2, rfl, rfl, hk2, hk2'⟩
  obtain ⟨s, b, hs, hl⟩ := ylR_form r
  have hS := specYearLine_fn r
  rw [hs] at hS
  repeat' (first | (simp only [onC_true, ↓wA, ↓wC, wB, frzBE, frzBS, reduceEqDiff, reduceAdd, reduceSub, reduceIte, reduceCtorEq, Nat.reduceBEq, reduceLT, sz33]) | (refine call_det (hS) rfl rfl ?_) | (refine callP_det (hS) rfl rfl ?_) | ((first | apply execG_split | apply execC_split | apply onPick_split) <;> intro h <;> try simp only [h]))
  refine callM_rel (one_fn code k2 s2 3 hc (by omega)) rfl rfl rfl ?_
  rintro _ _ ⟨m, k3, s3, rfl, rfl, hk3, hk3'⟩
  cases m with
  | false =>
    repeat' (first | (simp only [onC_true, ↓wA, ↓wC, wB, frzBE, frzBS, reduceEqDiff, reduceAdd, reduceSub, reduceIte, reduceCtorEq, Nat.reduceBEq, reduceLT, sz33]) | ((first | apply execG_split | apply execC_split | apply onPick_split) <;> intro h <;> try simp only [h]))
    exact ⟨s, rfl, by omega⟩
  | true =>
    repeat' (first | (simp only [onC_true, ↓wA, ↓wC, wB, frzBE, frzBS, reduceEqDiff, reduceAdd, reduceSub, reduceIte, reduceCtorEq, Nat.reduceBEq, reduceLT, sz33]) | ((first | apply execG_split | apply execC_split | apply onPick_split) <;> intro h <;> try simp only [h]))
    refine callM_rel (spoilt_fn code k3 s3 s [48, 32, 45, 43, 58, 49] hc (by omega) (by omega) (by decide) (by decide)) rfl rfl rfl ?_
    rintro _ _ ⟨t, k4, s4, rfl, rfl, hk4, hk4', ht⟩
    repeat' (first | (simp only [onC_true, ↓wA, ↓wC, wB, frzBE, frzBS, reduceEqDiff, reduceAdd, reduceSub, reduceIte, reduceCtorEq, Nat.reduceBEq, reduceLT, sz33]) | ((first | apply execG_split | apply execC_split | apply onPick_split) <;> intro h <;> try simp only [h]))
    exact ⟨t, rfl, by omega⟩
end Go.Pe.Tryd
