/- The rests after the rows: the program's. -/
import Derived.Test.YtepedloehigedaaDoorYr5
set_option maxRecDepth 100000
set_option maxHeartbeats 4000000
set_option linter.all false
namespace Go.Pe.Tryd
open Go.Proofs.Tryd
def rests : Int → List Row → List Int
  | _, [] => []
  | s, r :: rs => (s + r.m - r.gone) :: rests (s + r.m - r.gone) rs
def restsR (stock : Int) (xs : List Row) : List D := if good stock xs then [.sl true 1 (dl iD (rests stock xs)), .bool true] else [.sl true 1 (dl iD []), .bool false]
theorem restsAfter_fn (stock : Int) (xs : List Row) (hlen : xs.length ≤ 1048576) : Fn prog 32 [.int .i64 stock, .sl false 5 (rowsD xs)] (fun rs => rs = restsR stock xs) := by
  refine Fn_of' (fn := f32) (by exact func32) c32 r32 (n := 57) (by rfl) (rv := [.tmp 4, .tmp 5]) (by rfl) (by simp) ?_
  unfold m32
  try simp only [↓wA, ↓wC, wB, Nat.reduceEqDiff, Nat.reduceAdd, Nat.reduceSub, reduceIte, reduceCtorEq, Nat.reduceBEq, Nat.reduceLT, decide_true]
  refine call_det (isCount_fn _) rfl rfl ?_
  try simp only [↓wA, ↓wC, wB, Nat.reduceEqDiff, Nat.reduceAdd, Nat.reduceSub, reduceIte, reduceCtorEq, Nat.reduceBEq, Nat.reduceLT, decide_true]
  cases hc : isCount stock with
  | false =>
    try simp only [↓wA, ↓wC, wB, Nat.reduceEqDiff, Nat.reduceAdd, Nat.reduceSub, reduceIte, reduceCtorEq, Nat.reduceBEq, Nat.reduceLT, decide_true]
    refine take_nil 1 ?_
    try simp only [↓wA, ↓wC, wB, Nat.reduceEqDiff, Nat.reduceAdd, Nat.reduceSub, reduceIte, reduceCtorEq, Nat.reduceBEq, Nat.reduceLT, decide_true]
    simp [restsR, good, hc, dl, ofL]
  | true =>
    by_cases hn : xs.length ≤ 10
    · have hd10 : decide ((10 : Int) < (xs.length : Int)) = false := by simp; omega
      try simp only [dl_len, hd10, ↓wA, ↓wC, wB, Nat.reduceEqDiff, Nat.reduceAdd, Nat.reduceSub, reduceIte, reduceCtorEq, Nat.reduceBEq, Nat.reduceLT, decide_true]
      have hbs := count_of hc
      have hgood : good stock xs = okFrom stock none xs := by simp [good, hc, hn]
      refine exec_loopN (ts := [(6, 1)]) (fun p : Nat × Int × List Int => ⟨[(0, .d (.int .i64 p.2.1)), (1, .d (.sl false 5 (rowsD xs))), (6, .own 0), (17, .d (.sl false 5 (rowsD xs))), (18, .d (.int .i64 xs.length)), (19, .d (.int .i64 p.1))], [.val (.sl true 1 (dl iD p.2.2))]⟩)
        (fun p => p.1 ≤ xs.length ∧ p.2.2.length = p.1 ∧ 0 ≤ p.2.1 ∧ p.2.1 ≤ 9999 * (p.1 + 1) ∧ okFrom stock none xs = okFrom p.2.1 (prevY xs p.1) (xs.drop p.1) ∧ rests stock xs = p.2.2 ++ rests p.2.1 (xs.drop p.1)) (fun p => xs.length - p.1) (0, stock, [])
        ⟨rfl, trivial⟩ (weak_of [] rfl ⟨⟨rfl, rfl⟩, ⟨rfl, rfl⟩, ⟨rfl, rfl⟩, ⟨rfl, rfl⟩, ⟨rfl, rfl⟩, ⟨rfl, rfl⟩, trivial⟩) ⟨Nat.zero_le _, rfl, hbs.1, by have := hbs.2; simp only; omega, by simp [prevY], by simp⟩ ?_
      rintro ⟨i, st, out⟩ ⟨hi, hout, hs0, hs1, hok, hre⟩
      simp only at hi hout hs0 hs1 hok hre
      by_cases hlt : i < xs.length
      · obtain ⟨r, hr⟩ := get_lt hlt
        have hd : decide ((i : Int) < (xs.length : Int)) = true := by simp; omega
        have h0 : (0 : Int) ≤ (i : Int) := by omega
        have hdrop := drop_get hr
        rw [hdrop] at hok hre
        try simp only [dl_len, hd, dl_nth, Int.toNat_natCast, hr, Option.map_some, ↓rd_row, h0, onC_true, isV_row, size_row, ↓wA, ↓wC, wB, Nat.reduceEqDiff, Nat.reduceAdd, Nat.reduceSub, reduceIte, reduceCtorEq, Nat.reduceBEq, Nat.reduceLT, decide_true]
        refine callP_det (isYearRow_fn r) rfl rfl ?_
        try simp only [↓wA, ↓wC, wB, Nat.reduceEqDiff, Nat.reduceAdd, Nat.reduceSub, reduceIte, reduceCtorEq, Nat.reduceBEq, Nat.reduceLT, decide_true]
        cases hrk : r.ok with
        | false =>
          have hf : good stock xs = false := by rw [hgood, hok]; simp [okFrom, hrk]
          try simp only [↓wA, ↓wC, wB, Nat.reduceEqDiff, Nat.reduceAdd, Nat.reduceSub, reduceIte, reduceCtorEq, Nat.reduceBEq, Nat.reduceLT, decide_true]
          refine take_nil 1 ?_
          try simp only [↓wA, ↓wC, wB, Nat.reduceEqDiff, Nat.reduceAdd, Nat.reduceSub, reduceIte, reduceCtorEq, Nat.reduceBEq, Nat.reduceLT, decide_true]
          simp [restsR, hf, dl, ofL]
        | true =>
          have hb := ok_bounds hrk
          have hg : r.gone = r.k + r.x + r.g := rfl
          have tail : (prevY xs i = none ∨ ∃ y, prevY xs i = some y ∧ y < r.y) → okFrom st (prevY xs i) (r :: xs.drop (i + 1)) = (decide (0 ≤ st + r.m - r.gone) && okFrom (st + r.m - r.gone) (some r.y) (xs.drop (i + 1))) := by
            intro hp
            rcases hp with hp | ⟨y, hp, hy⟩
            · simp [hp, okFrom, hrk]
            · simp [hp, okFrom, hrk, hy]
          have hpre : prevY xs (i + 1) = some r.y := by simp [prevY, hr]
          by_cases hi0 : i = 0
          · subst hi0
            have hg0 : decide ((0 : Int) < ((0 : Nat) : Int)) = false := by simp
            have hp : prevY xs 0 = none := by simp [prevY]
            have hp' := Or.inl (b := ∃ y, prevY xs 0 = some y ∧ y < r.y) hp
            try simp only [hg0, ↓wA, ↓wC, wB, Nat.reduceEqDiff, Nat.reduceAdd, Nat.reduceSub, reduceIte, reduceCtorEq, Nat.reduceBEq, Nat.reduceLT, decide_true]
            try simp only [dl_len, hd, dl_nth, Int.toNat_natCast, hr, Option.map_some, ↓rd_row, h0, onC_true, Row.d, ↓wA, ↓wC, wB, Nat.reduceEqDiff, Nat.reduceAdd, Nat.reduceSub, reduceIte, reduceCtorEq, Nat.reduceBEq, Nat.reduceLT, decide_true]
            refine callP_det (gone_fn r hrk) rfl rfl ?_
            try simp only [↓wA, ↓wC, wB, Nat.reduceEqDiff, Nat.reduceAdd, Nat.reduceSub, reduceIte, reduceCtorEq, Nat.reduceBEq, Nat.reduceLT, decide_true]
            refine onI_bare (by simp only [InR]; omega) ?_
            try simp only [↓wA, ↓wC, wB, Nat.reduceEqDiff, Nat.reduceAdd, Nat.reduceSub, reduceIte, reduceCtorEq, Nat.reduceBEq, Nat.reduceLT, decide_true]
            refine onI_bare (by simp only [InR]; omega) ?_
            try simp only [↓wA, ↓wC, wB, Nat.reduceEqDiff, Nat.reduceAdd, Nat.reduceSub, reduceIte, reduceCtorEq, Nat.reduceBEq, Nat.reduceLT, decide_true]
            refine execC_split (fun h => ?_) (fun h => ?_)
            · have hf : good stock xs = false := by
                have h3 : ¬ 0 ≤ st + r.m - r.gone := by simp at h; omega
                rw [hgood, hok, tail hp', decide_eq_false h3]; rfl
              try simp only [↓wA, ↓wC, wB, Nat.reduceEqDiff, Nat.reduceAdd, Nat.reduceSub, reduceIte, reduceCtorEq, Nat.reduceBEq, Nat.reduceLT, decide_true]
              refine take_nil 1 ?_
              try simp only [↓wA, ↓wC, wB, Nat.reduceEqDiff, Nat.reduceAdd, Nat.reduceSub, reduceIte, reduceCtorEq, Nat.reduceBEq, Nat.reduceLT, decide_true]
              simp [restsR, hf, dl, ofL]
            · have h3 : 0 ≤ st + r.m - r.gone := by simp at h; omega
              have e1 : st + (r.m - r.gone) = st + r.m - r.gone := by omega
              try simp only [dl_len, e1, app_int, ↓wA, ↓wC, wB, Nat.reduceEqDiff, Nat.reduceAdd, Nat.reduceSub, reduceIte, reduceCtorEq, Nat.reduceBEq, Nat.reduceLT, decide_true]
              refine onC_i (by first | omega | simp) ?_
              try refine onC_i (by omega) ?_
              try simp only [e1, app_int, ↓wA, ↓wC, wB, Nat.reduceEqDiff, Nat.reduceAdd, Nat.reduceSub, reduceIte, reduceCtorEq, Nat.reduceBEq, Nat.reduceLT, decide_true]
              refine onI_bare (by simp only [InR]; omega) ?_
              refine ⟨(0 + 1, st + r.m - r.gone, out ++ [st + r.m - r.gone]), weak_of _ rfl ⟨⟨rfl, rfl⟩, ⟨rfl, rfl⟩, ⟨rfl, rfl⟩, ⟨rfl, rfl⟩, ⟨rfl, rfl⟩, ⟨rfl, rfl⟩, trivial⟩, ⟨by omega, by simp [hout], h3, by simp only; omega, ?_, ?_⟩, by simp only; omega⟩
              · rw [hok, tail hp', hpre, decide_eq_true h3]; rfl
              · rw [hre]; simp [rests]
          · obtain ⟨q, hq⟩ := get_lt (show i - 1 < xs.length by omega)
            have hg0 : decide ((0 : Int) < (i : Int)) = true := by simp; omega
            have hq' : xs[((i : Int) - 1).toNat]? = some q := by rw [show ((i : Int) - 1).toNat = i - 1 by omega]; exact hq
            have h1 : (0 : Int) ≤ (i : Int) - 1 := by omega
            have hp : prevY xs i = some q.y := by simp [prevY, hi0, hq]
            try simp only [hg0, ↓wA, ↓wC, wB, Nat.reduceEqDiff, Nat.reduceAdd, Nat.reduceSub, reduceIte, reduceCtorEq, Nat.reduceBEq, Nat.reduceLT, decide_true]
            refine onI_bare (by simp only [InR]; omega) ?_
            try simp only [dl_nth, hq', h1, Option.map_some, ↓fa_row0, onC_true, Row.d, ↓wA, ↓wC, wB, Nat.reduceEqDiff, Nat.reduceAdd, Nat.reduceSub, reduceIte, reduceCtorEq, Nat.reduceBEq, Nat.reduceLT, decide_true]
            refine execC_split (fun h => ?_) (fun h => ?_)
            · have hle : ¬ q.y < r.y := by simp at h; omega
              have hf : good stock xs = false := by rw [hgood, hok, hp]; simp [okFrom, hle]
              try simp only [↓wA, ↓wC, wB, Nat.reduceEqDiff, Nat.reduceAdd, Nat.reduceSub, reduceIte, reduceCtorEq, Nat.reduceBEq, Nat.reduceLT, decide_true]
              refine take_nil 1 ?_
              try simp only [↓wA, ↓wC, wB, Nat.reduceEqDiff, Nat.reduceAdd, Nat.reduceSub, reduceIte, reduceCtorEq, Nat.reduceBEq, Nat.reduceLT, decide_true]
              simp [restsR, hf, dl, ofL]
            have hp' : prevY xs i = none ∨ ∃ y, prevY xs i = some y ∧ y < r.y := .inr ⟨q.y, hp, by simp at h; omega⟩
            try simp only [dl_len, hd, dl_nth, Int.toNat_natCast, hr, Option.map_some, ↓rd_row, h0, onC_true, Row.d, ↓wA, ↓wC, wB, Nat.reduceEqDiff, Nat.reduceAdd, Nat.reduceSub, reduceIte, reduceCtorEq, Nat.reduceBEq, Nat.reduceLT, decide_true]
            refine callP_det (gone_fn r hrk) rfl rfl ?_
            try simp only [↓wA, ↓wC, wB, Nat.reduceEqDiff, Nat.reduceAdd, Nat.reduceSub, reduceIte, reduceCtorEq, Nat.reduceBEq, Nat.reduceLT, decide_true]
            refine onI_bare (by simp only [InR]; omega) ?_
            try simp only [↓wA, ↓wC, wB, Nat.reduceEqDiff, Nat.reduceAdd, Nat.reduceSub, reduceIte, reduceCtorEq, Nat.reduceBEq, Nat.reduceLT, decide_true]
            refine onI_bare (by simp only [InR]; omega) ?_
            try simp only [↓wA, ↓wC, wB, Nat.reduceEqDiff, Nat.reduceAdd, Nat.reduceSub, reduceIte, reduceCtorEq, Nat.reduceBEq, Nat.reduceLT, decide_true]
            refine execC_split (fun h => ?_) (fun h => ?_)
            · have hf : good stock xs = false := by
                have h3 : ¬ 0 ≤ st + r.m - r.gone := by simp at h; omega
                rw [hgood, hok, tail hp', decide_eq_false h3]; rfl
              try simp only [↓wA, ↓wC, wB, Nat.reduceEqDiff, Nat.reduceAdd, Nat.reduceSub, reduceIte, reduceCtorEq, Nat.reduceBEq, Nat.reduceLT, decide_true]
              refine take_nil 1 ?_
              try simp only [↓wA, ↓wC, wB, Nat.reduceEqDiff, Nat.reduceAdd, Nat.reduceSub, reduceIte, reduceCtorEq, Nat.reduceBEq, Nat.reduceLT, decide_true]
              simp [restsR, hf, dl, ofL]
            · have h3 : 0 ≤ st + r.m - r.gone := by simp at h; omega
              have e1 : st + (r.m - r.gone) = st + r.m - r.gone := by omega
              try simp only [dl_len, e1, app_int, ↓wA, ↓wC, wB, Nat.reduceEqDiff, Nat.reduceAdd, Nat.reduceSub, reduceIte, reduceCtorEq, Nat.reduceBEq, Nat.reduceLT, decide_true]
              refine onC_i (by first | omega | simp) ?_
              try refine onC_i (by omega) ?_
              try simp only [e1, app_int, ↓wA, ↓wC, wB, Nat.reduceEqDiff, Nat.reduceAdd, Nat.reduceSub, reduceIte, reduceCtorEq, Nat.reduceBEq, Nat.reduceLT, decide_true]
              refine onI_bare (by simp only [InR]; omega) ?_
              refine ⟨(i + 1, st + r.m - r.gone, out ++ [st + r.m - r.gone]), weak_of _ rfl ⟨⟨rfl, rfl⟩, ⟨rfl, rfl⟩, ⟨rfl, rfl⟩, ⟨rfl, rfl⟩, ⟨rfl, rfl⟩, ⟨rfl, rfl⟩, trivial⟩, ⟨by omega, by simp [hout], h3, by simp only; omega, ?_, ?_⟩, by simp only; omega⟩
              · rw [hok, tail hp', hpre, decide_eq_true h3]; rfl
              · rw [hre]; simp [rests]
      · have hd : decide ((i : Int) < (xs.length : Int)) = false := by simp; omega
        have e : i = xs.length := by omega
        have hg : good stock xs = true := by rw [hgood, hok, e, List.drop_length]; rfl
        have ho : rests stock xs = out := by rw [hre, e, List.drop_length]; simp [rests]
        try simp only [hd, ↓wA, ↓wC, wB, Nat.reduceEqDiff, Nat.reduceAdd, Nat.reduceSub, reduceIte, reduceCtorEq, Nat.reduceBEq, Nat.reduceLT, decide_true]
        simp [restsR, hg, ho]
    · have hd10 : decide ((10 : Int) < (xs.length : Int)) = true := by simp; omega
      try simp only [dl_len, hd10, ↓wA, ↓wC, wB, Nat.reduceEqDiff, Nat.reduceAdd, Nat.reduceSub, reduceIte, reduceCtorEq, Nat.reduceBEq, Nat.reduceLT, decide_true]
      refine take_nil 1 ?_
      try simp only [↓wA, ↓wC, wB, Nat.reduceEqDiff, Nat.reduceAdd, Nat.reduceSub, reduceIte, reduceCtorEq, Nat.reduceBEq, Nat.reduceLT, decide_true]
      simp [restsR, good, hc, hn, dl, ofL]
end Go.Pe.Tryd
