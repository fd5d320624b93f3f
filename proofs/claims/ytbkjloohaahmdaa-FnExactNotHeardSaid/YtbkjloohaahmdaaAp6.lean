/- Is an appeal valid? walked. -/
import Derived.Test.YtbkjloohaahmdaaAp5
set_option maxRecDepth 100000
set_option maxHeartbeats 4000000
set_option linter.all false
namespace Go.Pe.Try
open Go.Proofs.Try
/-- indexFuncI: the first element of which a test holds. -/
theorem indexFuncI_fn (p : Int → Bool) (g : Nat) (c : D) (xs : List Int) (hc : c.caps = true) (he : enterOK prog.P g = true) (hlen : xs.length ≤ 1048576) (hp : ∀ x ∈ xs, Fn prog g (iD x :: c.list) (fun rs => rs = [.bool (p x)])) :
    Fn prog 121 [.sl false 1 (dl iD xs), .clo g c] (fun rs => rs = [.int .i64 (idxOf p xs)]) := by
  refine Fn_of' (fn := f121) (by exact func121) c121 r121 (n := 19) (by rfl) (rv := [.tmp 4]) (by rfl) (by simp) ?_
  unfold m121
  simp only [dl_len, ↓wA, ↓wC, wB, frzBE, frzBS, Nat.reduceEqDiff, Nat.reduceAdd, Nat.reduceSub, reduceIte, reduceCtorEq, Nat.reduceBEq, Nat.reduceLT, decide_true]
  refine exec_range xs.length (fun i : Nat => ⟨[(0, .d (.sl false 1 (dl iD xs))), (1, .d (.clo g c)), (7, .d (.int .i64 xs.length)), (8, .d (.int .i64 i))], []⟩) (fun i => ∀ j r, j < i → xs[j]? = some r → p r = false) (weak_of _ rfl ⟨⟨rfl, rfl⟩, ⟨rfl, rfl⟩, ⟨rfl, rfl⟩, ⟨rfl, rfl⟩, trivial⟩) (fun j r hj => by omega) ?_ ?_
  · intro i hlt hinv hd h0
    obtain ⟨r, hr⟩ := get_lt hlt
    have hcl := hp r (List.mem_of_getElem? hr)
    simp only [hd, h0, dl_nth, Int.toNat_natCast, hr, Option.map_some, onC_true, ↓rd_iD, ↓wA, ↓wC, wB, frzBE, frzBS, Nat.reduceEqDiff, Nat.reduceAdd, Nat.reduceSub, reduceIte, reduceCtorEq, Nat.reduceBEq, Nat.reduceLT, decide_true]
    refine callW_det (ds := [iD r]) hcl he hc (by simp [argsD, argD, valOf, iD]) rfl ?_
    cases hpr : p r with
    | true =>
      simp only [↓wA, ↓wC, wB, frzBE, frzBS, Nat.reduceEqDiff, Nat.reduceAdd, Nat.reduceSub, reduceIte, reduceCtorEq, Nat.reduceBEq, Nat.reduceLT, decide_true]
      rw [idxOf_hit hr hpr hinv]
    | false =>
      simp only [↓wA, ↓wC, wB, frzBE, frzBS, Nat.reduceEqDiff, Nat.reduceAdd, Nat.reduceSub, reduceIte, reduceCtorEq, Nat.reduceBEq, Nat.reduceLT, decide_true]
      refine onI_bare (by simp only [InR]; omega) ?_
      refine next_range (weak_of _ rfl ⟨⟨rfl, rfl⟩, ⟨rfl, rfl⟩, ⟨rfl, rfl⟩, ⟨rfl, rfl⟩, trivial⟩) hlt fun j s hj hs => ?_
      by_cases e : j = i
      · subst e; rw [hr] at hs; injection hs with hs; rw [← hs]; exact hpr
      · exact hinv j s (by omega) hs
  · intro hinv hd
    simp only [hd, ↓wA, ↓wC, wB, frzBE, frzBS, Nat.reduceEqDiff, Nat.reduceAdd, Nat.reduceSub, reduceIte, reduceCtorEq, Nat.reduceBEq, Nat.reduceLT, decide_true]
    rw [idxOf_none fun j r hj => hinv j r (lt_of_get hj) hj]
/-- containsFuncI: is there an element of which a test holds? -/
theorem containsFuncI_fn (p : Int → Bool) (g : Nat) (c : D) (xs : List Int) (hc : c.caps = true) (he : enterOK prog.P g = true) (hlen : xs.length ≤ 1048576) (hp : ∀ x ∈ xs, Fn prog g (iD x :: c.list) (fun rs => rs = [.bool (p x)])) :
    Fn prog 113 [.sl false 1 (dl iD xs), .clo g c] (fun rs => rs = [.bool (xs.any p)]) := by
  refine Fn_of' (fn := f113) (by exact func113) c113 r113 (n := 9) (by rfl) (rv := [.tmp 4]) (by rfl) (by simp) ?_
  unfold m113
  simp only [↓wA, ↓wC, wB, frzBE, frzBS, Nat.reduceEqDiff, Nat.reduceAdd, Nat.reduceSub, reduceIte, reduceCtorEq, Nat.reduceBEq, Nat.reduceLT, decide_true]
  refine call_det (indexFuncI_fn p g c xs hc he hlen hp) rfl rfl ?_
  simp only [idxOf_any, ↓wA, ↓wC, wB, frzBE, frzBS, Nat.reduceEqDiff, Nat.reduceAdd, Nat.reduceSub, reduceIte, reduceCtorEq, Nat.reduceBEq, Nat.reduceLT, decide_true]
/-- indexFuncA: the first element of which a test holds. -/
theorem indexFuncA_fn (p : App → Bool) (g : Nat) (c : D) (xs : List App) (hc : c.caps = true) (he : enterOK prog.P g = true) (hlen : xs.length ≤ 1048576) (hp : ∀ x ∈ xs, Fn prog g (App.d' x :: c.list) (fun rs => rs = [.bool (p x)])) :
    Fn prog 119 [.sl false 6 (dl App.d' xs), .clo g c] (fun rs => rs = [.int .i64 (idxOf p xs)]) := by
  refine Fn_of' (fn := f119) (by exact func119) c119 r119 (n := 19) (by rfl) (rv := [.tmp 4]) (by rfl) (by simp) ?_
  unfold m119
  simp only [dl_len, ↓wA, ↓wC, wB, frzBE, frzBS, Nat.reduceEqDiff, Nat.reduceAdd, Nat.reduceSub, reduceIte, reduceCtorEq, Nat.reduceBEq, Nat.reduceLT, decide_true]
  refine exec_range xs.length (fun i : Nat => ⟨[(0, .d (.sl false 6 (dl App.d' xs))), (1, .d (.clo g c)), (7, .d (.int .i64 xs.length)), (8, .d (.int .i64 i))], []⟩) (fun i => ∀ j r, j < i → xs[j]? = some r → p r = false) (weak_of _ rfl ⟨⟨rfl, rfl⟩, ⟨rfl, rfl⟩, ⟨rfl, rfl⟩, ⟨rfl, rfl⟩, trivial⟩) (fun j r hj => by omega) ?_ ?_
  · intro i hlt hinv hd h0
    obtain ⟨r, hr⟩ := get_lt hlt
    have hcl := hp r (List.mem_of_getElem? hr)
    simp only [hd, h0, dl_nth, Int.toNat_natCast, hr, Option.map_some, onC_true, ↓rd_app, ↓wA, ↓wC, wB, frzBE, frzBS, Nat.reduceEqDiff, Nat.reduceAdd, Nat.reduceSub, reduceIte, reduceCtorEq, Nat.reduceBEq, Nat.reduceLT, decide_true]
    refine callW_det (ds := [App.d' r]) hcl he hc (by simp [argsD, argD, valOf, App.unown]) rfl ?_
    cases hpr : p r with
    | true =>
      simp only [↓wA, ↓wC, wB, frzBE, frzBS, Nat.reduceEqDiff, Nat.reduceAdd, Nat.reduceSub, reduceIte, reduceCtorEq, Nat.reduceBEq, Nat.reduceLT, decide_true]
      rw [idxOf_hit hr hpr hinv]
    | false =>
      simp only [↓wA, ↓wC, wB, frzBE, frzBS, Nat.reduceEqDiff, Nat.reduceAdd, Nat.reduceSub, reduceIte, reduceCtorEq, Nat.reduceBEq, Nat.reduceLT, decide_true]
      refine onI_bare (by simp only [InR]; omega) ?_
      refine next_range (weak_of _ rfl ⟨⟨rfl, rfl⟩, ⟨rfl, rfl⟩, ⟨rfl, rfl⟩, ⟨rfl, rfl⟩, trivial⟩) hlt fun j s hj hs => ?_
      by_cases e : j = i
      · subst e; rw [hr] at hs; injection hs with hs; rw [← hs]; exact hpr
      · exact hinv j s (by omega) hs
  · intro hinv hd
    simp only [hd, ↓wA, ↓wC, wB, frzBE, frzBS, Nat.reduceEqDiff, Nat.reduceAdd, Nat.reduceSub, reduceIte, reduceCtorEq, Nat.reduceBEq, Nat.reduceLT, decide_true]
    rw [idxOf_none fun j r hj => hinv j r (lt_of_get hj) hj]
/-- containsFuncA: is there an element of which a test holds? -/
theorem containsFuncA_fn (p : App → Bool) (g : Nat) (c : D) (xs : List App) (hc : c.caps = true) (he : enterOK prog.P g = true) (hlen : xs.length ≤ 1048576) (hp : ∀ x ∈ xs, Fn prog g (App.d' x :: c.list) (fun rs => rs = [.bool (p x)])) :
    Fn prog 106 [.sl false 6 (dl App.d' xs), .clo g c] (fun rs => rs = [.bool (xs.any p)]) := by
  refine Fn_of' (fn := f106) (by exact func106) c106 r106 (n := 9) (by rfl) (rv := [.tmp 4]) (by rfl) (by simp) ?_
  unfold m106
  simp only [↓wA, ↓wC, wB, frzBE, frzBS, Nat.reduceEqDiff, Nat.reduceAdd, Nat.reduceSub, reduceIte, reduceCtorEq, Nat.reduceBEq, Nat.reduceLT, decide_true]
  refine call_det (indexFuncA_fn p g c xs hc he hlen hp) rfl rfl ?_
  simp only [idxOf_any, ↓wA, ↓wC, wB, frzBE, frzBS, Nat.reduceEqDiff, Nat.reduceAdd, Nat.reduceSub, reduceIte, reduceCtorEq, Nat.reduceBEq, Nat.reduceLT, decide_true]
/-- indexI: the first place of a value. -/
theorem indexI_fn (xs : List Int) (v : Int) (hlen : xs.length ≤ 1048576) :
    Fn prog 75 [.sl false 1 (dl iD xs), iD v] (fun rs => rs = [.int .i64 (idxOf (fun x => decide (v = x)) xs)]) := by
  refine Fn_of' (fn := f75) (by exact func75) c75 r75 (n := 19) (by rfl) (rv := [.tmp 4]) (by rfl) (by simp) ?_
  unfold m75
  simp only [dl_len, iD, ↓wA, ↓wC, wB, frzBE, frzBS, Nat.reduceEqDiff, Nat.reduceAdd, Nat.reduceSub, reduceIte, reduceCtorEq, Nat.reduceBEq, Nat.reduceLT, decide_true]
  refine exec_range xs.length (fun i : Nat => ⟨[(0, .d (.sl false 1 (dl iD xs))), (1, .d (iD v)), (7, .d (.int .i64 xs.length)), (8, .d (.int .i64 i))], []⟩) (fun i => ∀ j r, j < i → xs[j]? = some r → decide (v = r) = false) (weak_of _ rfl ⟨⟨rfl, rfl⟩, ⟨rfl, rfl⟩, ⟨rfl, rfl⟩, ⟨rfl, rfl⟩, trivial⟩) (fun j r hj => by omega) ?_ ?_
  · intro i hlt hinv hd h0
    obtain ⟨r, hr⟩ := get_lt hlt
    simp only [hd, h0, dl_nth, Int.toNat_natCast, hr, Option.map_some, onC_true, ↓rd_iD, iD, ↓wA, ↓wC, wB, frzBE, frzBS, Nat.reduceEqDiff, Nat.reduceAdd, Nat.reduceSub, reduceIte, reduceCtorEq, Nat.reduceBEq, Nat.reduceLT, decide_true]
    by_cases hpr : v = r
    · simp only [decide_eq_true hpr, ↓wA, ↓wC, wB, frzBE, frzBS, Nat.reduceEqDiff, Nat.reduceAdd, Nat.reduceSub, reduceIte, reduceCtorEq, Nat.reduceBEq, Nat.reduceLT, decide_true]
      rw [idxOf_hit hr (decide_eq_true hpr) hinv]
    · simp only [decide_eq_false hpr, ↓wA, ↓wC, wB, frzBE, frzBS, Nat.reduceEqDiff, Nat.reduceAdd, Nat.reduceSub, reduceIte, reduceCtorEq, Nat.reduceBEq, Nat.reduceLT, decide_true]
      refine onI_bare (by simp only [InR]; omega) ?_
      refine next_range (weak_of _ rfl ⟨⟨rfl, rfl⟩, ⟨rfl, rfl⟩, ⟨rfl, rfl⟩, ⟨rfl, rfl⟩, trivial⟩) hlt fun j s hj hs => ?_
      by_cases e : j = i
      · subst e; rw [hr] at hs; injection hs with hs; rw [← hs]; exact decide_eq_false hpr
      · exact hinv j s (by omega) hs
  · intro hinv hd
    simp only [hd, ↓wA, ↓wC, wB, frzBE, frzBS, Nat.reduceEqDiff, Nat.reduceAdd, Nat.reduceSub, reduceIte, reduceCtorEq, Nat.reduceBEq, Nat.reduceLT, decide_true]
    rw [idxOf_none fun j r hj => hinv j r (lt_of_get hj) hj]
theorem containsI_fn (xs : List Int) (v : Int) (hlen : xs.length ≤ 1048576) : Fn prog 70 [.sl false 1 (dl iD xs), .int .i64 v] (fun rs => rs = [.bool (xs.contains v)]) := by
  refine Fn_of' (fn := f70) (by exact func70) c70 r70 (n := 9) (by rfl) (rv := [.tmp 4]) (by rfl) (by simp) ?_
  unfold m70
  simp only [↓wA, ↓wC, wB, frzBE, frzBS, Nat.reduceEqDiff, Nat.reduceAdd, Nat.reduceSub, reduceIte, reduceCtorEq, Nat.reduceBEq, Nat.reduceLT, decide_true]
  refine call_det (indexI_fn xs v hlen) rfl rfl ?_
  simp only [idxOf_any, any_eq_contains, ↓wA, ↓wC, wB, frzBE, frzBS, Nat.reduceEqDiff, Nat.reduceAdd, Nat.reduceSub, reduceIte, reduceCtorEq, Nat.reduceBEq, Nat.reduceLT, decide_true]
theorem clo1_fn (n : Int) : Fn prog 114 [.int .i64 n] (fun rs => rs = [.bool (!within n 1 50)]) := by
  refine Fn_of' (fn := f114) (by exact func114) c114 r114 (n := 6) (by rfl) (rv := [.tmp 2]) (by rfl) (by simp) ?_
  unfold m114
  repeat' (first
      | (simp only [↓wA, ↓wC, wB, frzBE, frzBS, Nat.reduceEqDiff, Nat.reduceAdd, Nat.reduceSub, reduceIte, reduceCtorEq, Nat.reduceBEq, Nat.reduceLT, decide_true])
      | (refine call_det (isParty_fn _) rfl rfl ?_)
      | (refine callP_det (isParty_fn _) rfl rfl ?_)
      | (refine execG_split (fun h => ?_) (fun h => ?_) <;> simp only [h])
      | (refine execC_split (fun h => ?_) (fun h => ?_) <;> (try simp only [h]))
      | (refine onPick_split (fun h => ?_) (fun h => ?_) <;> (try simp only [h])))
theorem clo2_fn (n : Int) (x : App) (hx : x.a.length ≤ 1048576) : Fn prog 115 [.int .i64 n, .ptr x.d'] (fun rs => rs = [.bool (!x.a.contains n)]) := by
  refine Fn_of' (fn := f115) (by exact func115) c115 r115 (n := 9) (by rfl) (rv := [.tmp 3]) (by rfl) (by simp) ?_
  unfold m115
  simp only [App.d']
  repeat' (first
      | (simp only [ints_noOwn, onC_true, ↓wA, ↓wC, wB, frzBE, frzBS, Nat.reduceEqDiff, Nat.reduceAdd, Nat.reduceSub, reduceIte, reduceCtorEq, Nat.reduceBEq, Nat.reduceLT, decide_true])
      | (refine call_det (containsI_fn _ _ hx) rfl rfl ?_)
      | (refine callP_det (containsI_fn _ _ hx) rfl rfl ?_)
      | (refine execG_split (fun h => ?_) (fun h => ?_) <;> simp only [h])
      | (refine execC_split (fun h => ?_) (fun h => ?_) <;> (try simp only [h]))
      | (refine onPick_split (fun h => ?_) (fun h => ?_) <;> (try simp only [h])))
end Go.Pe.Try
