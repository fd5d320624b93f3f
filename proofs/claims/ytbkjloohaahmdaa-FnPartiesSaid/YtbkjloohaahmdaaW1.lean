/- Appeals among the laws' helpers: sizes, copies, equality; walked; Lists of appeals among the laws' helpers: sizes and copies; walked; Copies of lists of appeals, walked; Small tests of appeals, walked; Rising lists, walked; Is an appeal valid? walked; Valid appeals, walked; Valid lists of appeals, walked; Valid lists of appeals, walked; Valid lists of appeals as the reference has them, walked; The law of AreAppeals, joined; Greatest common divisors and shares in lowest terms, walked; The place of an appeal; how many days it has left, walked; The busiest party and the won share, walked; The won share, walked; Marks on lists of numbers, walked; Marks on lists of appeals, walked; Marks on appeals, read again; copies of one's own, walked; Copies of appeals as the program makes them, walked; A decided appeal, walked; Copies of appeals and a decided appeal as the reference has them, walked; Lapsed appeals, walked; Lapsed appeals as the reference has them, walked; A new appeal as the reference has it, walked; A new appeal as the program has it, walked; Sorting of a few numbers, walked; A party heard, walked; A party heard as the reference has it, walked -/
import Derived.Test.YtbkjloohaahmdaaPeD
import Derived.Test.YtbkjloohaahmdaaMc1
import Derived.Test.YtbkjloohaahmdaaMc2
import Derived.Test.YtbkjloohaahmdaaMc3
import Derived.Test.YtbkjloohaahmdaaMc4
set_option maxRecDepth 100000
set_option maxHeartbeats 4000000
set_option linter.all false
namespace Go.Pe.Try
open Go.Proofs.Try
structure App where
  i : Int
  q : Int
  d : Int
  a : List Int
  h : List Int
  s : Int
def App.d' (x : App) : D := .st (.cons (.int .i64 x.i) (.cons (.int .i64 x.q) (.cons (.int .i64 x.d) (.cons (.sl false 1 (dl iD x.a)) (.cons (.sl false 1 (dl iD x.h)) (.cons (.int .i64 x.s) .nil))))))
def App.ok0 (x : App) : Prop := x.a.length ≤ 1048576 ∧ x.h.length ≤ 1048576
theorem ints_noOwn (v : List Int) : (dl iD v).noOwn = true := dl_noOwn iD_noOwn v
theorem ints_unown (v : List Int) : (dl iD v).unown = dl iD v := dl_unown iD_unown v
theorem App.noOwn (x : App) : x.d'.noOwn = true := by simp [App.d', D.noOwn, ints_noOwn]
theorem App.unown (x : App) : x.d'.unown = x.d' := by simp [App.d', D.unown, ints_unown]
abbrev appsD (xs : List App) : D := dl App.d' xs
theorem rd_app {o : List Ob} {K : SV → Prop} {x : App} : stepRd o (some 6) x.d' K = K (.d x.d') := by simp [App.d', stepRd, D.size, D.noOwn, ints_noOwn]
theorem apps_noOwn (xs : List App) : (appsD xs).noOwn = true := dl_noOwn App.noOwn xs
theorem apps_unown (xs : List App) : (appsD xs).unown = appsD xs := dl_unown App.unown xs
end Go.Pe.Try

set_option maxRecDepth 100000
set_option maxHeartbeats 4000000
set_option linter.all false
namespace Go.Pe.Try
open Go.Proofs.Try
theorem adrop_get {α : Type} {xs : List α} {i : Nat} {a : α} (h : xs[i]? = some a) : xs.drop i = a :: xs.drop (i + 1) := by
  have hi := lt_of_get h
  rw [List.drop_eq_getElem_cons hi]
  rw [List.getElem?_eq_getElem hi] at h
  injection h with h
  rw [h]
end Go.Pe.Try

set_option maxRecDepth 100000
set_option maxHeartbeats 4000000
set_option linter.all false
namespace Go.Pe.Try
open Go.Proofs.Try
theorem oa_isV (x : App) : x.d'.isV = true := rfl
theorem oa_size (x : App) : x.d'.size = 6 := rfl
end Go.Pe.Try

set_option maxRecDepth 100000
set_option maxHeartbeats 4000000
set_option linter.all false
namespace Go.Pe.Try
open Go.Proofs.Try
def within (n a b : Int) : Bool := decide (a ≤ n) && decide (n ≤ b)
theorem within_fn (n a b : Int) : Fn prog 111 [.int .i64 n, .int .i64 a, .int .i64 b] (fun rs => rs = [.bool (within n a b)]) := by
  refine Fn_of' (fn := f111) (by exact func111) c111 r111 (n := 15) (by rfl) (rv := [.tmp 6]) (by rfl) (by simp) ?_
  unfold m111
  simp only [↓wA, ↓wC, wB, frzBE, frzBS, Nat.reduceEqDiff, Nat.reduceAdd, Nat.reduceSub, reduceIte, reduceCtorEq, Nat.reduceBEq, Nat.reduceLT, decide_true]
  refine execG_split (fun h => ?_) (fun h => ?_) <;> simp only [h, ↓wA, ↓wC, wB, frzBE, frzBS, Nat.reduceEqDiff, Nat.reduceAdd, Nat.reduceSub, reduceIte, reduceCtorEq, Nat.reduceBEq, Nat.reduceLT, decide_true]
  all_goals simp [within, h]
theorem l1In_fn (n a b : Int) : Fn prog 131 [.int .i64 n, .int .i64 a, .int .i64 b] (fun rs => rs = [.bool (within n a b)]) := by
  refine Fn_of' (fn := f131) (by exact func131) c131 r131 (n := 15) (by rfl) (rv := [.tmp 6]) (by rfl) (by simp) ?_
  unfold m131
  simp only [↓wA, ↓wC, wB, frzBE, frzBS, Nat.reduceEqDiff, Nat.reduceAdd, Nat.reduceSub, reduceIte, reduceCtorEq, Nat.reduceBEq, Nat.reduceLT, decide_true]
  refine execG_split (fun h => ?_) (fun h => ?_) <;> simp only [h, ↓wA, ↓wC, wB, frzBE, frzBS, Nat.reduceEqDiff, Nat.reduceAdd, Nat.reduceSub, reduceIte, reduceCtorEq, Nat.reduceBEq, Nat.reduceLT, decide_true]
  all_goals simp [within, h]
theorem isDay_fn (n : Int) : Fn prog 94 [.int .i64 n] (fun rs => rs = [.bool (within n 0 20000)]) := by
  refine Fn_of' (fn := f94) (by exact func94) c94 r94 (n := 5) (by rfl) (rv := [.tmp 2]) (by rfl) (by simp) ?_
  unfold m94
  repeat' (first
      | (simp only [↓wA, ↓wC, wB, frzBE, frzBS, Nat.reduceEqDiff, Nat.reduceAdd, Nat.reduceSub, reduceIte, reduceCtorEq, Nat.reduceBEq, Nat.reduceLT, decide_true])
      | (refine call_det (within_fn _ _ _) rfl rfl ?_)
      | (refine callP_det (within_fn _ _ _) rfl rfl ?_)
      | (refine execG_split (fun h => ?_) (fun h => ?_) <;> simp only [h])
      | (refine execC_split (fun h => ?_) (fun h => ?_) <;> (try simp only [h]))
      | (refine onPick_split (fun h => ?_) (fun h => ?_) <;> (try simp only [h])))
theorem l2Day_fn (n : Int) : Fn prog 96 [.int .i64 n] (fun rs => rs = [.bool (within n 0 20000)]) := by
  refine Fn_of' (fn := f96) (by exact func96) c96 r96 (n := 5) (by rfl) (rv := [.tmp 2]) (by rfl) (by simp) ?_
  unfold m96
  repeat' (first
      | (simp only [↓wA, ↓wC, wB, frzBE, frzBS, Nat.reduceEqDiff, Nat.reduceAdd, Nat.reduceSub, reduceIte, reduceCtorEq, Nat.reduceBEq, Nat.reduceLT, decide_true])
      | (refine call_det (l1In_fn _ _ _) rfl rfl ?_)
      | (refine callP_det (l1In_fn _ _ _) rfl rfl ?_)
      | (refine execG_split (fun h => ?_) (fun h => ?_) <;> simp only [h])
      | (refine execC_split (fun h => ?_) (fun h => ?_) <;> (try simp only [h]))
      | (refine onPick_split (fun h => ?_) (fun h => ?_) <;> (try simp only [h])))
theorem isParty_fn (n : Int) : Fn prog 87 [.int .i64 n] (fun rs => rs = [.bool (within n 1 50)]) := by
  refine Fn_of' (fn := f87) (by exact func87) c87 r87 (n := 5) (by rfl) (rv := [.tmp 2]) (by rfl) (by simp) ?_
  unfold m87
  repeat' (first
      | (simp only [↓wA, ↓wC, wB, frzBE, frzBS, Nat.reduceEqDiff, Nat.reduceAdd, Nat.reduceSub, reduceIte, reduceCtorEq, Nat.reduceBEq, Nat.reduceLT, decide_true])
      | (refine call_det (within_fn _ _ _) rfl rfl ?_)
      | (refine callP_det (within_fn _ _ _) rfl rfl ?_)
      | (refine execG_split (fun h => ?_) (fun h => ?_) <;> simp only [h])
      | (refine execC_split (fun h => ?_) (fun h => ?_) <;> (try simp only [h]))
      | (refine onPick_split (fun h => ?_) (fun h => ?_) <;> (try simp only [h])))
/-- does a number stand in a list? -/
theorem l1Has_fn (v : List Int) (n : Int) (hlen : v.length ≤ 1048576) : Fn prog 64 [.sl false 1 (dl iD v), .int .i64 n] (fun rs => rs = [.bool (v.contains n)]) := by
  refine Fn_of' (fn := f64) (by exact func64) c64 r64 (n := 18) (by rfl) (rv := [.tmp 4]) (by rfl) (by simp) ?_
  unfold m64
  simp only [↓wA, ↓wC, wB, frzBE, frzBS, Nat.reduceEqDiff, Nat.reduceAdd, Nat.reduceSub, reduceIte, reduceCtorEq, Nat.reduceBEq, Nat.reduceLT, decide_true]
  refine exec_loop (fun i : Nat => ⟨[(0, .d (.sl false 1 (dl iD v))), (1, .d (.int .i64 n)), (5, .d (.int .i64 i))], []⟩)
    (fun i => i ≤ v.length ∧ n ∉ v.take i) (fun i => v.length - i) 0 (weak_of [] rfl ⟨⟨rfl, rfl⟩, ⟨rfl, rfl⟩, ⟨rfl, rfl⟩, trivial⟩) ⟨Nat.zero_le _, by simp⟩ ?_
  rintro i ⟨hi, hp⟩
  by_cases hlt : i < v.length
  · obtain ⟨r, hr⟩ := get_lt hlt
    have hd : decide ((i : Int) < (v.length : Int)) = true := decide_eq_true (by omega)
    have h0 : (0 : Int) ≤ (i : Int) := by omega
    by_cases hc : r = n
    · have hm : v.contains n = true := by rw [List.contains_iff_mem]; rw [← hc]; exact List.mem_of_getElem? hr
      have hdc : decide (r = n) = true := decide_eq_true hc
      simp only [dl_len, dl_nth, hd, h0, hr, Option.map_some, Int.toNat_natCast, onC_true, iD, hdc, hm, ↓wA, ↓wC, wB, frzBE, frzBS, Nat.reduceEqDiff, Nat.reduceAdd, Nat.reduceSub, reduceIte, reduceCtorEq, Nat.reduceBEq, Nat.reduceLT, decide_true]
    · have hdc : decide (r = n) = false := decide_eq_false hc
      simp only [dl_len, dl_nth, hd, h0, hr, Option.map_some, Int.toNat_natCast, onC_true, iD, hdc, ↓wA, ↓wC, wB, frzBE, frzBS, Nat.reduceEqDiff, Nat.reduceAdd, Nat.reduceSub, reduceIte, reduceCtorEq, Nat.reduceBEq, Nat.reduceLT, decide_true]
      refine onI_bare (by simp only [InR]; omega) ?_
      refine ⟨i + 1, weak_of [] rfl ⟨⟨rfl, rfl⟩, ⟨rfl, rfl⟩, ⟨rfl, rfl⟩, trivial⟩, ⟨by omega, ?_⟩, by omega⟩
      have hi := lt_of_get hr
      rw [List.take_succ_eq_append_getElem hi]
      have : v[i] = r := by rw [List.getElem?_eq_getElem hi] at hr; injection hr
      rw [this]
      simp only [List.mem_append, List.mem_singleton, not_or]
      exact ⟨hp, fun h => hc h.symm⟩
  · have hd : decide ((i : Int) < (v.length : Int)) = false := decide_eq_false (by omega)
    simp only [dl_len, hd, ↓wA, ↓wC, wB, frzBE, frzBS, Nat.reduceEqDiff, Nat.reduceAdd, Nat.reduceSub, reduceIte, reduceCtorEq, Nat.reduceBEq, Nat.reduceLT, decide_true]
    rw [List.take_of_length_le (by omega)] at hp
    have : v.contains n = false := by
      cases h : v.contains n with
      | false => rfl
      | true => exact absurd (List.contains_iff_mem.1 h) hp
    rw [this]
end Go.Pe.Try

set_option maxRecDepth 100000
set_option maxHeartbeats 4000000
set_option linter.all false
namespace Go.Pe.Try
open Go.Proofs.Try
/-- a list rises. -/
def rises (v : List Int) : Bool := (List.range (v.length - 1)).all fun j => decide (v.getD j 0 < v.getD (j + 1) 0)
theorem rises_iff (v : List Int) : rises v = true ↔ ∀ j, j + 1 < v.length → v.getD j 0 < v.getD (j + 1) 0 := by
  simp only [rises, List.all_eq_true, List.mem_range, decide_eq_true_eq]
  exact ⟨fun h j hj => h j (by omega), fun h j hj => h j (by omega)⟩
theorem areRising_fn (v : List Int) (hlen : v.length ≤ 1048576) : Fn prog 112 [.sl false 1 (dl iD v)] (fun rs => rs = [.bool (rises v)]) := by
  refine Fn_of' (fn := f112) (by exact func112) c112 r112 (n := 20) (by rfl) (rv := [.tmp 2]) (by rfl) (by simp) ?_
  unfold m112
  simp only [↓wA, ↓wC, wB, frzBE, frzBS, Nat.reduceEqDiff, Nat.reduceAdd, Nat.reduceSub, reduceIte, reduceCtorEq, Nat.reduceBEq, Nat.reduceLT, decide_true]
  refine exec_loop (fun i : Nat => ⟨[(0, .d (.sl false 1 (dl iD v))), (3, .d (.int .i64 (i + 1 : Nat)))], []⟩)
    (fun i => i ≤ v.length ∧ ∀ j, j + 1 < i + 1 → j + 1 < v.length → v.getD j 0 < v.getD (j + 1) 0) (fun i => v.length - i) 0 (weak_of [] rfl ⟨⟨rfl, rfl⟩, ⟨rfl, rfl⟩, trivial⟩) ⟨Nat.zero_le _, fun j h => by omega⟩ ?_
  rintro i ⟨hi, hp⟩
  by_cases hlt : i + 1 < v.length
  · obtain ⟨a, ha⟩ := get_lt (show i < v.length by omega)
    obtain ⟨b, hb⟩ := get_lt hlt
    have hd : decide (((i + 1 : Nat) : Int) < (v.length : Int)) = true := decide_eq_true (by omega)
    have h0 : (0 : Int) ≤ ((i + 1 : Nat) : Int) := by omega
    have h1 : (0 : Int) ≤ ((i + 1 : Nat) : Int) - 1 := by omega
    have ha' : v[(((i + 1 : Nat) : Int) - 1).toNat]? = some a := by rw [show (((i + 1 : Nat) : Int) - 1).toNat = i by omega]; exact ha
    have ga : v.getD i 0 = a := by simp [List.getD, ha]
    have gb : v.getD (i + 1) 0 = b := by simp [List.getD, hb]
    repeat' (first
        | (simp only [dl_len, dl_nth, hd, h0, h1, ha', hb, Int.toNat_natCast, Option.map_some, onC_true, iD, ↓wA, ↓wC, wB, frzBE, frzBS, Nat.reduceEqDiff, Nat.reduceAdd, Nat.reduceSub, reduceIte, reduceCtorEq, Nat.reduceBEq, Nat.reduceLT, decide_true])
        | (refine onI_bare (by simp only [InR]; omega) ?_)
        | (refine execG_split (fun h => ?_) (fun h => ?_) <;> simp only [h])
        | (refine execC_split (fun h => ?_) (fun h => ?_) <;> (try simp only [h]))
        | (refine onPick_split (fun h => ?_) (fun h => ?_) <;> (try simp only [h])))
    · have hr : rises v = false := by
        cases hr : rises v with
        | false => rfl
        | true =>
          have := (rises_iff v).1 hr i hlt
          rw [ga, gb] at this
          simp at h; omega
      rw [hr]
    · refine ⟨i + 1, weak_of [] rfl ⟨⟨rfl, rfl⟩, ⟨rfl, rfl⟩, trivial⟩, ⟨by omega, fun j hj hj2 => ?_⟩, by omega⟩
      by_cases e : j = i
      · subst e
        rw [ga, gb]
        simp at h; omega
      · exact hp j (by omega) hj2
  · have hd : decide (((i + 1 : Nat) : Int) < (v.length : Int)) = false := decide_eq_false (by omega)
    have hr : rises v = true := (rises_iff v).2 fun j hj => hp j (by omega) hj
    simp only [dl_len, hd, ↓wA, ↓wC, wB, frzBE, frzBS, Nat.reduceEqDiff, Nat.reduceAdd, Nat.reduceSub, reduceIte, reduceCtorEq, Nat.reduceBEq, Nat.reduceLT, decide_true]
    rw [hr]
end Go.Pe.Try

set_option maxRecDepth 100000
set_option maxHeartbeats 4000000
set_option linter.all false
namespace Go.Pe.Try
open Go.Proofs.Try
/-- indexFuncI: the first element of which a test holds. -/
theorem indexFuncI_fn (p : Int → Bool) (g : Nat) (c : D) (xs : List Int) (hc : c.caps = true) (he : enterOK prog.P g = true) (hlen : xs.length ≤ 1048576) (hp : ∀ x ∈ xs, Fn prog g (iD x :: c.list) (fun rs => rs = [.bool (p x)])) :
    Fn prog 121 [.sl false 1 (dl iD xs), .clo g c] (fun rs => rs = [.int .i64 (idxOf p xs)]) := by
  refine Fn_of' (fn := f121) (by exact func121) c121 r121 (n := 19) (by rfl) (rv := [.tmp 4]) (by rfl) (by simp) ?_
  unfold m121
  simp only [dl_len, ↓wA, ↓wC, wB, frzBE, frzBS, Nat.reduceEqDiff, Nat.reduceAdd, Nat.reduceSub, reduceIte, reduceCtorEq, Nat.reduceBEq, Nat.reduceLT, decide_true]
  refine exec_range xs.length (fun i : Nat => ⟨[(0, .d (.sl false 1 (dl iD xs))), (1, .d (.clo g c)), (7, .d (.int .i64 xs.length)), (8, .d (.int .i64 i))], []⟩) (fun i => ∀ j r, j < i → xs[j]? = some r → p r = false) (weak_of _ rfl ⟨⟨rfl, rfl⟩, ⟨rfl, rfl⟩, ⟨rfl, rfl⟩, ⟨rfl, rfl⟩, trivial⟩) (fun j r hj => by omega) ?_ ?_
  · intro i hlt hinv hd h0
    obtain ⟨r, hr⟩ := get_lt hlt
    have hcl := hp r (List.mem_of_getElem? hr)
    simp only [hd, h0, dl_nth, Int.toNat_natCast, hr, Option.map_some, onC_true, ↓rd_iD, ↓wA, ↓wC, wB, frzBE, frzBS, Nat.reduceEqDiff, Nat.reduceAdd, Nat.reduceSub, reduceIte, reduceCtorEq, Nat.reduceBEq, Nat.reduceLT, decide_true]
    refine callW_det (ds := [iD r]) hcl he hc (by simp [argsD, argD, valOf, iD]) rfl ?_
    cases hpr : p r with
    | true =>
      simp only [↓wA, ↓wC, wB, frzBE, frzBS, Nat.reduceEqDiff, Nat.reduceAdd, Nat.reduceSub, reduceIte, reduceCtorEq, Nat.reduceBEq, Nat.reduceLT, decide_true]
      rw [idxOf_hit hr hpr hinv]
    | false =>
      simp only [↓wA, ↓wC, wB, frzBE, frzBS, Nat.reduceEqDiff, Nat.reduceAdd, Nat.reduceSub, reduceIte, reduceCtorEq, Nat.reduceBEq, Nat.reduceLT, decide_true]
      refine onI_bare (by simp only [InR]; omega) ?_
      refine next_range (weak_of _ rfl ⟨⟨rfl, rfl⟩, ⟨rfl, rfl⟩, ⟨rfl, rfl⟩, ⟨rfl, rfl⟩, trivial⟩) hlt fun j s hj hs => ?_
      by_cases e : j = i
      · subst e; rw [hr] at hs; injection hs with hs; rw [← hs]; exact hpr
      · exact hinv j s (by omega) hs
  · intro hinv hd
    simp only [hd, ↓wA, ↓wC, wB, frzBE, frzBS, Nat.reduceEqDiff, Nat.reduceAdd, Nat.reduceSub, reduceIte, reduceCtorEq, Nat.reduceBEq, Nat.reduceLT, decide_true]
    rw [idxOf_none fun j r hj => hinv j r (lt_of_get hj) hj]
/-- containsFuncI: is there an element of which a test holds? -/
theorem containsFuncI_fn (p : Int → Bool) (g : Nat) (c : D) (xs : List Int) (hc : c.caps = true) (he : enterOK prog.P g = true) (hlen : xs.length ≤ 1048576) (hp : ∀ x ∈ xs, Fn prog g (iD x :: c.list) (fun rs => rs = [.bool (p x)])) :
    Fn prog 113 [.sl false 1 (dl iD xs), .clo g c] (fun rs => rs = [.bool (xs.any p)]) := by
  refine Fn_of' (fn := f113) (by exact func113) c113 r113 (n := 9) (by rfl) (rv := [.tmp 4]) (by rfl) (by simp) ?_
  unfold m113
  simp only [↓wA, ↓wC, wB, frzBE, frzBS, Nat.reduceEqDiff, Nat.reduceAdd, Nat.reduceSub, reduceIte, reduceCtorEq, Nat.reduceBEq, Nat.reduceLT, decide_true]
  refine call_det (indexFuncI_fn p g c xs hc he hlen hp) rfl rfl ?_
  simp only [idxOf_any, ↓wA, ↓wC, wB, frzBE, frzBS, Nat.reduceEqDiff, Nat.reduceAdd, Nat.reduceSub, reduceIte, reduceCtorEq, Nat.reduceBEq, Nat.reduceLT, decide_true]
/-- indexFuncA: the first element of which a test holds. -/
theorem indexFuncA_fn (p : App → Bool) (g : Nat) (c : D) (xs : List App) (hc : c.caps = true) (he : enterOK prog.P g = true) (hlen : xs.length ≤ 1048576) (hp : ∀ x ∈ xs, Fn prog g (App.d' x :: c.list) (fun rs => rs = [.bool (p x)])) :
    Fn prog 119 [.sl false 6 (dl App.d' xs), .clo g c] (fun rs => rs = [.int .i64 (idxOf p xs)]) := by
  refine Fn_of' (fn := f119) (by exact func119) c119 r119 (n := 19) (by rfl) (rv := [.tmp 4]) (by rfl) (by simp) ?_
  unfold m119
  simp only [dl_len, ↓wA, ↓wC, wB, frzBE, frzBS, Nat.reduceEqDiff, Nat.reduceAdd, Nat.reduceSub, reduceIte, reduceCtorEq, Nat.reduceBEq, Nat.reduceLT, decide_true]
  refine exec_range xs.length (fun i : Nat => ⟨[(0, .d (.sl false 6 (dl App.d' xs))), (1, .d (.clo g c)), (7, .d (.int .i64 xs.length)), (8, .d (.int .i64 i))], []⟩) (fun i => ∀ j r, j < i → xs[j]? = some r → p r = false) (weak_of _ rfl ⟨⟨rfl, rfl⟩, ⟨rfl, rfl⟩, ⟨rfl, rfl⟩, ⟨rfl, rfl⟩, trivial⟩) (fun j r hj => by omega) ?_ ?_
  · intro i hlt hinv hd h0
    obtain ⟨r, hr⟩ := get_lt hlt
    have hcl := hp r (List.mem_of_getElem? hr)
    simp only [hd, h0, dl_nth, Int.toNat_natCast, hr, Option.map_some, onC_true, ↓rd_app, ↓wA, ↓wC, wB, frzBE, frzBS, Nat.reduceEqDiff, Nat.reduceAdd, Nat.reduceSub, reduceIte, reduceCtorEq, Nat.reduceBEq, Nat.reduceLT, decide_true]
    refine callW_det (ds := [App.d' r]) hcl he hc (by simp [argsD, argD, valOf, App.unown]) rfl ?_
    cases hpr : p r with
    | true =>
      simp only [↓wA, ↓wC, wB, frzBE, frzBS, Nat.reduceEqDiff, Nat.reduceAdd, Nat.reduceSub, reduceIte, reduceCtorEq, Nat.reduceBEq, Nat.reduceLT, decide_true]
      rw [idxOf_hit hr hpr hinv]
    | false =>
      simp only [↓wA, ↓wC, wB, frzBE, frzBS, Nat.reduceEqDiff, Nat.reduceAdd, Nat.reduceSub, reduceIte, reduceCtorEq, Nat.reduceBEq, Nat.reduceLT, decide_true]
      refine onI_bare (by simp only [InR]; omega) ?_
      refine next_range (weak_of _ rfl ⟨⟨rfl, rfl⟩, ⟨rfl, rfl⟩, ⟨rfl, rfl⟩, ⟨rfl, rfl⟩, trivial⟩) hlt fun j s hj hs => ?_
      by_cases e : j = i
      · subst e; rw [hr] at hs; injection hs with hs; rw [← hs]; exact hpr
      · exact hinv j s (by omega) hs
  · intro hinv hd
    simp only [hd, ↓wA, ↓wC, wB, frzBE, frzBS, Nat.reduceEqDiff, Nat.reduceAdd, Nat.reduceSub, reduceIte, reduceCtorEq, Nat.reduceBEq, Nat.reduceLT, decide_true]
    rw [idxOf_none fun j r hj => hinv j r (lt_of_get hj) hj]
/-- containsFuncA: is there an element of which a test holds? -/
theorem containsFuncA_fn (p : App → Bool) (g : Nat) (c : D) (xs : List App) (hc : c.caps = true) (he : enterOK prog.P g = true) (hlen : xs.length ≤ 1048576) (hp : ∀ x ∈ xs, Fn prog g (App.d' x :: c.list) (fun rs => rs = [.bool (p x)])) :
    Fn prog 106 [.sl false 6 (dl App.d' xs), .clo g c] (fun rs => rs = [.bool (xs.any p)]) := by
  refine Fn_of' (fn := f106) (by exact func106) c106 r106 (n := 9) (by rfl) (rv := [.tmp 4]) (by rfl) (by simp) ?_
  unfold m106
  simp only [↓wA, ↓wC, wB, frzBE, frzBS, Nat.reduceEqDiff, Nat.reduceAdd, Nat.reduceSub, reduceIte, reduceCtorEq, Nat.reduceBEq, Nat.reduceLT, decide_true]
  refine call_det (indexFuncA_fn p g c xs hc he hlen hp) rfl rfl ?_
  simp only [idxOf_any, ↓wA, ↓wC, wB, frzBE, frzBS, Nat.reduceEqDiff, Nat.reduceAdd, Nat.reduceSub, reduceIte, reduceCtorEq, Nat.reduceBEq, Nat.reduceLT, decide_true]
/-- indexI: the first place of a value. -/
theorem indexI_fn (xs : List Int) (v : Int) (hlen : xs.length ≤ 1048576) :
    Fn prog 75 [.sl false 1 (dl iD xs), iD v] (fun rs => rs = [.int .i64 (idxOf (fun x => decide (v = x)) xs)]) := by
  refine Fn_of' (fn := f75) (by exact func75) c75 r75 (n := 19) (by rfl) (rv := [.tmp 4]) (by rfl) (by simp) ?_
  unfold m75
  simp only [dl_len, iD, ↓wA, ↓wC, wB, frzBE, frzBS, Nat.reduceEqDiff, Nat.reduceAdd, Nat.reduceSub, reduceIte, reduceCtorEq, Nat.reduceBEq, Nat.reduceLT, decide_true]
  refine exec_range xs.length (fun i : Nat => ⟨[(0, .d (.sl false 1 (dl iD xs))), (1, .d (iD v)), (7, .d (.int .i64 xs.length)), (8, .d (.int .i64 i))], []⟩) (fun i => ∀ j r, j < i → xs[j]? = some r → decide (v = r) = false) (weak_of _ rfl ⟨⟨rfl, rfl⟩, ⟨rfl, rfl⟩, ⟨rfl, rfl⟩, ⟨rfl, rfl⟩, trivial⟩) (fun j r hj => by omega) ?_ ?_
  · intro i hlt hinv hd h0
    obtain ⟨r, hr⟩ := get_lt hlt
    simp only [hd, h0, dl_nth, Int.toNat_natCast, hr, Option.map_some, onC_true, ↓rd_iD, iD, ↓wA, ↓wC, wB, frzBE, frzBS, Nat.reduceEqDiff, Nat.reduceAdd, Nat.reduceSub, reduceIte, reduceCtorEq, Nat.reduceBEq, Nat.reduceLT, decide_true]
    by_cases hpr : v = r
    · simp only [decide_eq_true hpr, ↓wA, ↓wC, wB, frzBE, frzBS, Nat.reduceEqDiff, Nat.reduceAdd, Nat.reduceSub, reduceIte, reduceCtorEq, Nat.reduceBEq, Nat.reduceLT, decide_true]
      rw [idxOf_hit hr (decide_eq_true hpr) hinv]
    · simp only [decide_eq_false hpr, ↓wA, ↓wC, wB, frzBE, frzBS, Nat.reduceEqDiff, Nat.reduceAdd, Nat.reduceSub, reduceIte, reduceCtorEq, Nat.reduceBEq, Nat.reduceLT, decide_true]
      refine onI_bare (by simp only [InR]; omega) ?_
      refine next_range (weak_of _ rfl ⟨⟨rfl, rfl⟩, ⟨rfl, rfl⟩, ⟨rfl, rfl⟩, ⟨rfl, rfl⟩, trivial⟩) hlt fun j s hj hs => ?_
      by_cases e : j = i
      · subst e; rw [hr] at hs; injection hs with hs; rw [← hs]; exact decide_eq_false hpr
      · exact hinv j s (by omega) hs
  · intro hinv hd
    simp only [hd, ↓wA, ↓wC, wB, frzBE, frzBS, Nat.reduceEqDiff, Nat.reduceAdd, Nat.reduceSub, reduceIte, reduceCtorEq, Nat.reduceBEq, Nat.reduceLT, decide_true]
    rw [idxOf_none fun j r hj => hinv j r (lt_of_get hj) hj]
theorem containsI_fn (xs : List Int) (v : Int) (hlen : xs.length ≤ 1048576) : Fn prog 70 [.sl false 1 (dl iD xs), .int .i64 v] (fun rs => rs = [.bool (xs.contains v)]) := by
  refine Fn_of' (fn := f70) (by exact func70) c70 r70 (n := 9) (by rfl) (rv := [.tmp 4]) (by rfl) (by simp) ?_
  unfold m70
  simp only [↓wA, ↓wC, wB, frzBE, frzBS, Nat.reduceEqDiff, Nat.reduceAdd, Nat.reduceSub, reduceIte, reduceCtorEq, Nat.reduceBEq, Nat.reduceLT, decide_true]
  refine call_det (indexI_fn xs v hlen) rfl rfl ?_
  simp only [idxOf_any, any_eq_contains, ↓wA, ↓wC, wB, frzBE, frzBS, Nat.reduceEqDiff, Nat.reduceAdd, Nat.reduceSub, reduceIte, reduceCtorEq, Nat.reduceBEq, Nat.reduceLT, decide_true]
theorem clo1_fn (n : Int) : Fn prog 114 [.int .i64 n] (fun rs => rs = [.bool (!within n 1 50)]) := by
  refine Fn_of' (fn := f114) (by exact func114) c114 r114 (n := 6) (by rfl) (rv := [.tmp 2]) (by rfl) (by simp) ?_
  unfold m114
  repeat' (first
      | (simp only [↓wA, ↓wC, wB, frzBE, frzBS, Nat.reduceEqDiff, Nat.reduceAdd, Nat.reduceSub, reduceIte, reduceCtorEq, Nat.reduceBEq, Nat.reduceLT, decide_true])
      | (refine call_det (isParty_fn _) rfl rfl ?_)
      | (refine callP_det (isParty_fn _) rfl rfl ?_)
      | (refine execG_split (fun h => ?_) (fun h => ?_) <;> simp only [h])
      | (refine execC_split (fun h => ?_) (fun h => ?_) <;> (try simp only [h]))
      | (refine onPick_split (fun h => ?_) (fun h => ?_) <;> (try simp only [h])))
theorem clo2_fn (n : Int) (x : App) (hx : x.a.length ≤ 1048576) : Fn prog 115 [.int .i64 n, .ptr x.d'] (fun rs => rs = [.bool (!x.a.contains n)]) := by
  refine Fn_of' (fn := f115) (by exact func115) c115 r115 (n := 9) (by rfl) (rv := [.tmp 3]) (by rfl) (by simp) ?_
  unfold m115
  simp only [App.d']
  repeat' (first
      | (simp only [ints_noOwn, onC_true, ↓wA, ↓wC, wB, frzBE, frzBS, Nat.reduceEqDiff, Nat.reduceAdd, Nat.reduceSub, reduceIte, reduceCtorEq, Nat.reduceBEq, Nat.reduceLT, decide_true])
      | (refine call_det (containsI_fn _ _ hx) rfl rfl ?_)
      | (refine callP_det (containsI_fn _ _ hx) rfl rfl ?_)
      | (refine execG_split (fun h => ?_) (fun h => ?_) <;> simp only [h])
      | (refine execC_split (fun h => ?_) (fun h => ?_) <;> (try simp only [h]))
      | (refine onPick_split (fun h => ?_) (fun h => ?_) <;> (try simp only [h])))
end Go.Pe.Try

set_option maxRecDepth 100000
set_option maxHeartbeats 4000000
set_option linter.all false
namespace Go.Pe.Try
open Go.Proofs.Try
def okA (x : App) : Bool := within x.i 1 999 && within x.q 1 999 && within x.d 0 20000 && within x.s 0 4 && !decide (6 < (x.a.length : Int)) && rises x.a && rises x.h && x.a.all (fun n => within n 1 50) && x.h.all (fun n => x.a.contains n) && (decide ((x.h.length : Int) < (x.a.length : Int)) == (decide (x.s = 0) || decide (x.s = 4)))
theorem any_not {α : Type} (p : α → Bool) (xs : List α) : xs.any (fun x => !p x) = !xs.all p := by
  induction xs with
  | nil => rfl
  | cons a v ih => simp [List.any_cons, List.all_cons, ih]
theorem isAppeal_fn (x : App) (hx : x.ok0) : Fn prog 59 [x.d'] (fun rs => rs = [.bool (okA x)]) := by
  have ha := hx.1
  have hh := hx.2
  have h1 := containsFuncI_fn (fun n => !within n 1 50) 114 .nil x.a rfl en114 ha (fun n _ => clo1_fn n)
  have h2 := containsFuncI_fn (fun n => !x.a.contains n) 115 (.cons (.ptr x.d') .nil) x.h rfl en115 hh (fun n _ => clo2_fn n x ha)
  rw [any_not] at h1 h2
  unfold okA
  generalize x.a.all (fun n => within n 1 50) = A at h1 ⊢
  generalize x.h.all (fun n => x.a.contains n) = H at h2 ⊢
  simp only [App.d'] at h2
  refine Fn_ofg (ps := [[1, 0, 0]]) (fn := f59) (by exact func59) c59 r59 (n := 66) (by rfl) (rv := [.tmp 2]) (by rfl) (by simp) ?_
  unfold m59
  simp only [ghAll, ghAt]
  simp only [App.d', ↓wA, ↓wC, wB, frzBE, frzBS, Nat.reduceEqDiff, Nat.reduceAdd, Nat.reduceSub, reduceIte, reduceCtorEq, Nat.reduceBEq, Nat.reduceLT, decide_true]
  refine exec_gh1 (frzB 0 rfl) ?_
  simp only [ints_noOwn, ints_unown, ↓wA, ↓wC, wB, frzBE, frzBS, Nat.reduceEqDiff, Nat.reduceAdd, Nat.reduceSub, reduceIte, reduceCtorEq, Nat.reduceBEq, Nat.reduceLT, decide_true]
  repeat' (first
      | (simp only [ints_noOwn, ints_unown, onC_true, dl_len, ↓wA, ↓wC, wB, frzBE, frzBS, Nat.reduceEqDiff, Nat.reduceAdd, Nat.reduceSub, reduceIte, reduceCtorEq, Nat.reduceBEq, Nat.reduceLT, decide_true])
      | (refine call_det (within_fn _ _ _) rfl rfl ?_)
      | (refine callP_det (within_fn _ _ _) rfl rfl ?_)
      | (refine call_det (isDay_fn _) rfl rfl ?_)
      | (refine callP_det (isDay_fn _) rfl rfl ?_)
      | (refine call_det (areRising_fn _ ha) rfl rfl ?_)
      | (refine callP_det (areRising_fn _ ha) rfl rfl ?_)
      | (refine call_det (areRising_fn _ hh) rfl rfl ?_)
      | (refine callP_det (areRising_fn _ hh) rfl rfl ?_)
      | (refine call_det (h1) rfl rfl ?_)
      | (refine callP_det (h1) rfl rfl ?_)
      | (refine call_det (h2) rfl rfl ?_)
      | (refine callP_det (h2) rfl rfl ?_)
      | (refine execG_split (fun h => ?_) (fun h => ?_) <;> simp only [h])
      | (refine execC_split (fun h => ?_) (fun h => ?_) <;> (try simp only [h]))
      | (refine onPick_split (fun h => ?_) (fun h => ?_) <;> (try simp only [h])))
  all_goals (clear h1 h2; simp_all)
theorem l1Rising_fn (v : List Int) (a b : Int) (hlen : v.length ≤ 1048576) : Fn prog 135 [.sl false 1 (dl iD v), .int .i64 a, .int .i64 b] (fun rs => rs = [.bool (v.all (fun n => within n a b) && rises v)]) := by
  refine Fn_of' (fn := f135) (by exact func135) c135 r135 (n := 38) (by rfl) (rv := [.tmp 6]) (by rfl) (by simp) ?_
  unfold m135
  simp only [↓wA, ↓wC, wB, frzBE, frzBS, Nat.reduceEqDiff, Nat.reduceAdd, Nat.reduceSub, reduceIte, reduceCtorEq, Nat.reduceBEq, Nat.reduceLT, decide_true]
  refine exec_range v.length (fun i : Nat => ⟨[(0, .d (.sl false 1 (dl iD v))), (1, .d (.int .i64 a)), (2, .d (.int .i64 b)), (7, .d (.int .i64 i))], []⟩) (fun i => (∀ j r, j < i → v[j]? = some r → within r a b = true) ∧ ∀ j, j + 1 < i → v.getD j 0 < v.getD (j + 1) 0) (weak_of _ rfl ⟨⟨rfl, rfl⟩, ⟨rfl, rfl⟩, ⟨rfl, rfl⟩, ⟨rfl, rfl⟩, trivial⟩) ⟨fun j r hj => by omega, fun j hj => by omega⟩ ?_ ?_
  · rintro i hlt ⟨hin, hri⟩ hd h0
    obtain ⟨r, hr⟩ := get_lt hlt
    have gr : v.getD i 0 = r := by simp [List.getD, hr]
    have hc := l1In_fn r a b
    cases hw : within r a b with
    | false =>
      have hres : (v.all (fun n => within n a b) && rises v) = false := by
        have : v.all (fun n => within n a b) = false := List.all_eq_false.2 ⟨r, List.mem_of_getElem? hr, by simp [hw]⟩
        rw [this]; rfl
      rw [hw] at hc
      repeat' (first
          | (simp only [dl_len, dl_nth, hd, h0, Int.toNat_natCast, hr, Option.map_some, ↓rd_iD, onC_true, ↓wA, ↓wC, wB, frzBE, frzBS, Nat.reduceEqDiff, Nat.reduceAdd, Nat.reduceSub, reduceIte, reduceCtorEq, Nat.reduceBEq, Nat.reduceLT, decide_true])
          | (refine call_det (hc) rfl rfl ?_)
          | (refine callP_det (hc) rfl rfl ?_)
          | (refine execG_split (fun h => ?_) (fun h => ?_) <;> simp only [h])
          | (refine execC_split (fun h => ?_) (fun h => ?_) <;> (try simp only [h]))
          | (refine onPick_split (fun h => ?_) (fun h => ?_) <;> (try simp only [h])))
      all_goals rw [hres]
    | true =>
      rw [hw] at hc
      have hin' : ∀ j s, j < i + 1 → v[j]? = some s → within s a b = true := fun j s hj hs => by
        by_cases e : j = i
        · subst e; rw [hr] at hs; injection hs with hs; rw [← hs]; exact hw
        · exact hin j s (by omega) hs
      cases i with
      | zero =>
        have hg : decide ((0 : Int) < ((0 : Nat) : Int)) = false := by decide
        repeat' (first
            | (simp only [dl_len, dl_nth, hd, h0, Int.toNat_natCast, hr, Option.map_some, ↓rd_iD, onC_true, hg, ↓wA, ↓wC, wB, frzBE, frzBS, Nat.reduceEqDiff, Nat.reduceAdd, Nat.reduceSub, reduceIte, reduceCtorEq, Nat.reduceBEq, Nat.reduceLT, decide_true])
            | (refine call_det (hc) rfl rfl ?_)
            | (refine callP_det (hc) rfl rfl ?_)
            | (refine onI_bare (by simp only [InR]; omega) ?_)
            | (refine execG_split (fun h => ?_) (fun h => ?_) <;> simp only [h])
            | (refine execC_split (fun h => ?_) (fun h => ?_) <;> (try simp only [h]))
            | (refine onPick_split (fun h => ?_) (fun h => ?_) <;> (try simp only [h])))
        all_goals exact next_range (weak_of _ rfl ⟨⟨rfl, rfl⟩, ⟨rfl, rfl⟩, ⟨rfl, rfl⟩, ⟨rfl, rfl⟩, trivial⟩) hlt ⟨hin', fun j hj => by omega⟩
      | succ k =>
        obtain ⟨y, hy⟩ := get_lt (show k < v.length by omega)
        have gy : v.getD k 0 = y := by simp [List.getD, hy]
        have hg : decide ((0 : Int) < ((k + 1 : Nat) : Int)) = true := decide_eq_true (by omega)
        have h1 : (0 : Int) ≤ ((k + 1 : Nat) : Int) - 1 := by omega
        have hy' : v[(((k + 1 : Nat) : Int) - 1).toNat]? = some y := by rw [show (((k + 1 : Nat) : Int) - 1).toNat = k by omega]; exact hy
        by_cases hl : y < r
        · have hq : decide (r ≤ y) = false := decide_eq_false (by omega)
          repeat' (first
              | (simp only [dl_len, dl_nth, hd, h0, h1, Int.toNat_natCast, hr, hy', Option.map_some, ↓rd_iD, onC_true, hg, hq, ↓wA, ↓wC, wB, frzBE, frzBS, Nat.reduceEqDiff, Nat.reduceAdd, Nat.reduceSub, reduceIte, reduceCtorEq, Nat.reduceBEq, Nat.reduceLT, decide_true])
              | (refine call_det (hc) rfl rfl ?_)
              | (refine callP_det (hc) rfl rfl ?_)
              | (refine onI_bare (by simp only [InR]; omega) ?_)
              | (refine execG_split (fun h => ?_) (fun h => ?_) <;> simp only [h])
              | (refine execC_split (fun h => ?_) (fun h => ?_) <;> (try simp only [h]))
              | (refine onPick_split (fun h => ?_) (fun h => ?_) <;> (try simp only [h])))
          all_goals refine next_range (weak_of _ rfl ⟨⟨rfl, rfl⟩, ⟨rfl, rfl⟩, ⟨rfl, rfl⟩, ⟨rfl, rfl⟩, trivial⟩) hlt ⟨hin', fun j hj => ?_⟩
          by_cases e : j = k
          · subst e; rw [gy, gr]; exact hl
          · exact hri j (by omega)
        · have hq : decide (r ≤ y) = true := decide_eq_true (by omega)
          have hres : (v.all (fun n => within n a b) && rises v) = false := by
            have : rises v = false := by
              cases h : rises v with
              | false => rfl
              | true =>
                have := (rises_iff v).1 h k hlt
                rw [gy, gr] at this; omega
            rw [this, Bool.and_false]
          repeat' (first
              | (simp only [dl_len, dl_nth, hd, h0, h1, Int.toNat_natCast, hr, hy', Option.map_some, ↓rd_iD, onC_true, hg, hq, ↓wA, ↓wC, wB, frzBE, frzBS, Nat.reduceEqDiff, Nat.reduceAdd, Nat.reduceSub, reduceIte, reduceCtorEq, Nat.reduceBEq, Nat.reduceLT, decide_true])
              | (refine call_det (hc) rfl rfl ?_)
              | (refine callP_det (hc) rfl rfl ?_)
              | (refine onI_bare (by simp only [InR]; omega) ?_)
              | (refine execG_split (fun h => ?_) (fun h => ?_) <;> simp only [h])
              | (refine execC_split (fun h => ?_) (fun h => ?_) <;> (try simp only [h]))
              | (refine onPick_split (fun h => ?_) (fun h => ?_) <;> (try simp only [h])))
          all_goals rw [hres]
  · rintro ⟨hin, hri⟩ hd
    have hres : (v.all (fun n => within n a b) && rises v) = true := by
      rw [Bool.and_eq_true]
      refine ⟨List.all_eq_true.2 fun n hn => ?_, (rises_iff v).2 fun j hj => hri j hj⟩
      obtain ⟨j, hj⟩ := List.getElem?_of_mem hn
      exact hin j n (lt_of_get hj) hj
    simp only [dl_len, hd, ↓wA, ↓wC, wB, frzBE, frzBS, Nat.reduceEqDiff, Nat.reduceAdd, Nat.reduceSub, reduceIte, reduceCtorEq, Nat.reduceBEq, Nat.reduceLT, decide_true]
    rw [hres]
end Go.Pe.Try

set_option maxRecDepth 100000
set_option maxHeartbeats 4000000
set_option linter.all false
namespace Go.Pe.Try
open Go.Proofs.Try
theorem okA_alt (x : App) : okA x = (within x.i 1 999 && within x.q 1 999 && within x.d 0 20000 && !decide (6 < (x.a.length : Int)) && (x.a.all (fun n => within n 1 50) && rises x.a) && (x.h.all (fun n => within n 1 50) && rises x.h) && within x.s 0 4 && x.h.all (fun n => x.a.contains n) && ((decide (x.s = 0) || decide (x.s = 4)) == decide ((x.h.length : Int) < (x.a.length : Int)))) := by
  have h : (x.a.all (fun n => within n 1 50) && x.h.all (fun n => x.a.contains n)) = (x.a.all (fun n => within n 1 50) && x.h.all (fun n => within n 1 50) && x.h.all (fun n => x.a.contains n)) := by
    cases h1 : x.a.all (fun n => within n 1 50) with
    | false => rfl
    | true =>
      cases h2 : x.h.all (fun n => x.a.contains n) with
      | false => simp
      | true =>
        have : x.h.all (fun n => within n 1 50) = true := List.all_eq_true.2 fun n hn => List.all_eq_true.1 h1 n (List.contains_iff_mem.1 (List.all_eq_true.1 h2 n hn))
        rw [this]; rfl
  have e : (decide ((x.h.length : Int) < (x.a.length : Int)) == (decide (x.s = 0) || decide (x.s = 4))) = ((decide (x.s = 0) || decide (x.s = 4)) == decide ((x.h.length : Int) < (x.a.length : Int))) := Bool.beq_comm
  unfold okA
  rw [e]
  generalize ((decide (x.s = 0) || decide (x.s = 4)) == decide ((x.h.length : Int) < (x.a.length : Int))) = E
  generalize x.a.all (fun n => within n 1 50) = A at h ⊢
  generalize x.h.all (fun n => x.a.contains n) = H at h ⊢
  generalize x.h.all (fun n => within n 1 50) = B at h ⊢
  generalize within x.i 1 999 = b1
  generalize within x.q 1 999 = b2
  generalize within x.d 0 20000 = b3
  generalize within x.s 0 4 = b4
  generalize decide (6 < (x.a.length : Int)) = b5
  generalize rises x.a = b6
  generalize rises x.h = b7
  revert h
  revert A H B b1 b2 b3 b4 b5 b6 b7 E
  decide
theorem l24One_fn (x : App) (hx : x.ok0) : Fn prog 116 [x.d'] (fun rs => rs = [.bool (okA x)]) := by
  have ha := hx.1
  have hh := hx.2
  rw [okA_alt]
  have r1 := l1Rising_fn x.a 1 50 ha
  have r2 := l1Rising_fn x.h 1 50 hh
  generalize (x.a.all (fun n => within n 1 50) && rises x.a) = A at r1 ⊢
  generalize (x.h.all (fun n => within n 1 50) && rises x.h) = B at r2 ⊢
  refine Fn_ofg (ps := [[1, 0, 0]]) (fn := f116) (by exact func116) c116 r116 (n := 76) (by rfl) (rv := [.tmp 2]) (by rfl) (by simp) ?_
  unfold m116
  simp only [ghAll, ghAt]
  simp only [App.d', ↓wA, ↓wC, wB, frzBE, frzBS, Nat.reduceEqDiff, Nat.reduceAdd, Nat.reduceSub, reduceIte, reduceCtorEq, Nat.reduceBEq, Nat.reduceLT, decide_true]
  refine exec_gh1 (frzB 0 rfl) ?_
  simp only [ints_noOwn, ints_unown, ↓wA, ↓wC, wB, frzBE, frzBS, Nat.reduceEqDiff, Nat.reduceAdd, Nat.reduceSub, reduceIte, reduceCtorEq, Nat.reduceBEq, Nat.reduceLT, decide_true]
  repeat' (first
      | (simp only [ints_noOwn, ints_unown, onC_true, dl_len, ↓wA, ↓wC, wB, frzBE, frzBS, Nat.reduceEqDiff, Nat.reduceAdd, Nat.reduceSub, reduceIte, reduceCtorEq, Nat.reduceBEq, Nat.reduceLT, decide_true])
      | (refine call_det (l1In_fn _ _ _) rfl rfl ?_)
      | (refine callP_det (l1In_fn _ _ _) rfl rfl ?_)
      | (refine call_det (l2Day_fn _) rfl rfl ?_)
      | (refine callP_det (l2Day_fn _) rfl rfl ?_)
      | (refine call_det (r1) rfl rfl ?_)
      | (refine callP_det (r1) rfl rfl ?_)
      | (refine call_det (r2) rfl rfl ?_)
      | (refine callP_det (r2) rfl rfl ?_)
      | (refine execG_split (fun h => ?_) (fun h => ?_) <;> simp only [h])
      | (refine execC_split (fun h => ?_) (fun h => ?_) <;> (try simp only [h]))
      | (refine onPick_split (fun h => ?_) (fun h => ?_) <;> (try simp only [h])))
  any_goals (clear r1 r2; simp_all; done)
  refine exec_range x.h.length (fun i : Nat => ⟨[(1, .d (.ptr x.d')), (3, .d (.int .i64 i))], []⟩) (fun i => ∀ j r, j < i → x.h[j]? = some r → x.a.contains r = true) (weak_of _ rfl ⟨⟨rfl, rfl⟩, ⟨rfl, rfl⟩, trivial⟩) (fun j r hj => by omega) ?_ ?_
  · intro i hlt hinv hd h0
    obtain ⟨r, hr⟩ := get_lt hlt
    have hc := l1Has_fn x.a r ha
    cases hw : x.a.contains r with
    | false =>
      have hres : x.h.all (fun n => x.a.contains n) = false := List.all_eq_false.2 ⟨r, List.mem_of_getElem? hr, by rw [hw]; simp⟩
      rw [hw] at hc
      simp only [App.d']
      repeat' (first
          | (simp only [ints_noOwn, dl_len, dl_nth, hd, h0, Int.toNat_natCast, hr, Option.map_some, ↓rd_iD, onC_true, ↓wA, ↓wC, wB, frzBE, frzBS, Nat.reduceEqDiff, Nat.reduceAdd, Nat.reduceSub, reduceIte, reduceCtorEq, Nat.reduceBEq, Nat.reduceLT, decide_true])
          | (refine call_det (hc) rfl rfl ?_)
          | (refine callP_det (hc) rfl rfl ?_)
          | (refine execG_split (fun h => ?_) (fun h => ?_) <;> simp only [h])
          | (refine execC_split (fun h => ?_) (fun h => ?_) <;> (try simp only [h]))
          | (refine onPick_split (fun h => ?_) (fun h => ?_) <;> (try simp only [h])))
      all_goals (rw [hres]; simp)
    | true =>
      rw [hw] at hc
      simp only [App.d']
      repeat' (first
          | (simp only [ints_noOwn, dl_len, dl_nth, hd, h0, Int.toNat_natCast, hr, Option.map_some, ↓rd_iD, onC_true, ↓wA, ↓wC, wB, frzBE, frzBS, Nat.reduceEqDiff, Nat.reduceAdd, Nat.reduceSub, reduceIte, reduceCtorEq, Nat.reduceBEq, Nat.reduceLT, decide_true])
          | (refine call_det (hc) rfl rfl ?_)
          | (refine callP_det (hc) rfl rfl ?_)
          | (refine onI_bare (by simp only [InR]; omega) ?_)
          | (refine execG_split (fun h => ?_) (fun h => ?_) <;> simp only [h])
          | (refine execC_split (fun h => ?_) (fun h => ?_) <;> (try simp only [h]))
          | (refine onPick_split (fun h => ?_) (fun h => ?_) <;> (try simp only [h])))
      all_goals refine next_range (weak_of _ rfl ⟨⟨rfl, rfl⟩, ⟨rfl, rfl⟩, trivial⟩) hlt fun j s hj hs => ?_
      by_cases e : j = i
      · subst e; rw [hr] at hs; injection hs with hs; rw [← hs]; exact hw
      · exact hinv j s (by omega) hs
  · intro hinv hd
    have hres : x.h.all (fun n => x.a.contains n) = true := List.all_eq_true.2 fun n hn => by
      obtain ⟨j, hj⟩ := List.getElem?_of_mem hn
      exact hinv j n (lt_of_get hj) hj
    rw [hres]
    clear r1 r2
    simp only [App.d']
    repeat' (first
        | (simp only [ints_noOwn, dl_len, hd, ↓wA, ↓wC, wB, frzBE, frzBS, Nat.reduceEqDiff, Nat.reduceAdd, Nat.reduceSub, reduceIte, reduceCtorEq, Nat.reduceBEq, Nat.reduceLT, decide_true])
        | (refine execG_split (fun h => ?_) (fun h => ?_) <;> simp only [h])
        | (refine execC_split (fun h => ?_) (fun h => ?_) <;> (try simp only [h]))
        | (refine onPick_split (fun h => ?_) (fun h => ?_) <;> (try simp only [h])))
    all_goals simp_all
end Go.Pe.Try

set_option maxRecDepth 100000
set_option maxHeartbeats 4000000
set_option linter.all false
namespace Go.Pe.Try
open Go.Proofs.Try
def pend (x : App) : Bool := decide (x.s = 0) || decide (x.s = 1)
def ltA (xs : List App) (i : Nat) (x : App) : Bool := match i with
  | 0 => true
  | j + 1 => match xs[j]? with
    | none => true
    | some y => decide (y.i < x.i)
def sameA (x y : App) : Bool := decide (y.q = x.q) && pend y
def stepA (xs : List App) (i : Nat) : Bool := match xs[i]? with
  | none => true
  | some x => okA x && ltA xs i x && !(pend x && (xs.take i).any (sameA x))
def goodA (xs : List App) : Bool := decide ((xs.length : Int) ≤ 10) && (List.range xs.length).all (stepA xs)
theorem stepA_at {xs : List App} {i : Nat} {x : App} (hr : xs[i]? = some x) : stepA xs i = (okA x && ltA xs i x && !(pend x && (xs.take i).any (sameA x))) := by
  simp only [stepA, hr]
theorem goodA_bad {xs : List App} {i : Nat} (hi : i < xs.length) (h : stepA xs i = false) : goodA xs = false := by
  have : (List.range xs.length).all (stepA xs) = false := List.all_eq_false.2 ⟨i, List.mem_range.2 hi, by rw [h]; simp⟩
  rw [goodA, this, Bool.and_false]
theorem goodA_all {xs : List App} (h : ∀ j, j < xs.length → stepA xs j = true) : goodA xs = decide ((xs.length : Int) ≤ 10) := by
  have : (List.range xs.length).all (stepA xs) = true := List.all_eq_true.2 fun j hj => h j (List.mem_range.1 hj)
  rw [goodA, this, Bool.and_true]
theorem fa_app0 {x : App} {K : SV → Prop} : stepFa 0 0 (.d (.ptr x.d')) K = K (.d (.ptr (.int .i64 x.i))) := by simp [App.d', stepFa, D.pre, D.nth, D.size]
theorem fa_app1 {x : App} {K : SV → Prop} : stepFa 1 1 (.d (.ptr x.d')) K = K (.d (.ptr (.int .i64 x.q))) := by simp [App.d', stepFa, D.pre, D.nth, D.size]
theorem fa_app2 {x : App} {K : SV → Prop} : stepFa 2 2 (.d (.ptr x.d')) K = K (.d (.ptr (.int .i64 x.d))) := by simp [App.d', stepFa, D.pre, D.nth, D.size]
theorem fa_app3 {x : App} {K : SV → Prop} : stepFa 3 3 (.d (.ptr x.d')) K = K (.d (.ptr (.sl false 1 (dl iD x.a)))) := by simp [App.d', stepFa, D.pre, D.nth, D.size]
theorem fa_app4 {x : App} {K : SV → Prop} : stepFa 4 4 (.d (.ptr x.d')) K = K (.d (.ptr (.sl false 1 (dl iD x.h)))) := by simp [App.d', stepFa, D.pre, D.nth, D.size]
theorem fa_app5 {x : App} {K : SV → Prop} : stepFa 5 5 (.d (.ptr x.d')) K = K (.d (.ptr (.int .i64 x.s))) := by simp [App.d', stepFa, D.pre, D.nth, D.size]
theorem isPending_fn (x : App) : Fn prog 105 [x.d'] (fun rs => rs = [.bool (pend x)]) := by
  refine Fn_of' (fn := f105) (by exact func105) c105 r105 (n := 11) (by rfl) (rv := [.tmp 2]) (by rfl) (by simp) ?_
  unfold m105
  simp only [App.d']
  repeat' (first
      | (simp only [ints_noOwn, onC_true, ↓wA, ↓wC, wB, frzBE, frzBS, Nat.reduceEqDiff, Nat.reduceAdd, Nat.reduceSub, reduceIte, reduceCtorEq, Nat.reduceBEq, Nat.reduceLT, decide_true])
      | (refine execG_split (fun h => ?_) (fun h => ?_) <;> simp only [h])
      | (refine execC_split (fun h => ?_) (fun h => ?_) <;> (try simp only [h]))
      | (refine onPick_split (fun h => ?_) (fun h => ?_) <;> (try simp only [h])))
  all_goals simp_all [pend]
theorem areClo_fn (x y : App) : Fn prog 107 [y.d', .ptr x.d'] (fun rs => rs = [.bool (sameA x y)]) := by
  have hp := isPending_fn y
  simp only [App.d'] at hp
  refine Fn_of' (fn := f107) (by exact func107) c107 r107 (n := 13) (by rfl) (rv := [.tmp 3]) (by rfl) (by simp) ?_
  unfold m107
  simp only [App.d']
  repeat' (first
      | (simp only [ints_noOwn, ints_unown, onC_true, ↓wA, ↓wC, wB, frzBE, frzBS, Nat.reduceEqDiff, Nat.reduceAdd, Nat.reduceSub, reduceIte, reduceCtorEq, Nat.reduceBEq, Nat.reduceLT, decide_true])
      | (refine call_det (hp) rfl rfl ?_)
      | (refine callP_det (hp) rfl rfl ?_)
      | (refine execG_split (fun h => ?_) (fun h => ?_) <;> simp only [h])
      | (refine execC_split (fun h => ?_) (fun h => ?_) <;> (try simp only [h]))
      | (refine onPick_split (fun h => ?_) (fun h => ?_) <;> (try simp only [h])))
  all_goals simp_all [sameA]
theorem apps_sub (xs : List App) (b : Nat) : (appsD xs).sub 0 b = appsD (xs.take b) := by
  rw [appsD, dl_sub]; rfl
theorem areAppeals_fn (xs : List App) (hlen : xs.length ≤ 1048576) (hx : ∀ x ∈ xs, x.ok0) : Fn prog 51 [.sl false 6 (appsD xs)] (fun rs => rs = [.bool (goodA xs)]) := by
  refine Fn_ofg (ps := [[1, 0, 1, 0, 0, 1, 1, 0, 0, 1, 0, 0]]) (fn := f51) (by exact func51) c51 r51 (n := 43) (by rfl) (rv := [.tmp 2]) (by rfl) (by simp) ?_
  unfold m51
  simp only [ghAll, ghAt]
  simp only [dl_len, ↓wA, ↓wC, wB, frzBE, frzBS, Nat.reduceEqDiff, Nat.reduceAdd, Nat.reduceSub, reduceIte, reduceCtorEq, Nat.reduceBEq, Nat.reduceLT, decide_true]
  refine exec_range xs.length (fun i : Nat => ⟨[(0, .d (.sl false 6 (appsD xs))), (5, .d (.sl false 6 (appsD xs))), (6, .d (.int .i64 xs.length)), (7, .d (.int .i64 i))], []⟩) (fun i => ∀ j, j < i → stepA xs j = true) (weak_of _ rfl ⟨⟨rfl, rfl⟩, ⟨rfl, rfl⟩, ⟨rfl, rfl⟩, ⟨rfl, rfl⟩, trivial⟩) (fun j hj => by omega) ?_ ?_
  · intro i hlt hinv hd h0
    obtain ⟨x, hr⟩ := get_lt hlt
    have hxo := hx x (List.mem_of_getElem? hr)
    have hst := stepA_at hr
    have hok := isAppeal_fn x hxo
    have hpe := isPending_fn x
    have hco := containsFuncA_fn (sameA x) 107 (.cons (.ptr x.d') .nil) (xs.take i) rfl en107 (by simp; omega) (fun y _ => areClo_fn x y)
    have hbi : (0 : Int) ≤ (i : Int) ∧ (i : Int) ≤ (xs.length : Int) := ⟨h0, by omega⟩
    simp only [hd, h0, dl_nth, Int.toNat_natCast, hr, Option.map_some, onC_true, ↓rd_app, oa_size, oa_isV, App.noOwn, App.unown, ↓wA, ↓wC, wB, frzBE, frzBS, Nat.reduceEqDiff, Nat.reduceAdd, Nat.reduceSub, reduceIte, reduceCtorEq, Nat.reduceBEq, Nat.reduceLT, decide_true]
    refine exec_gh1 (frzB 0 rfl) ?_
    simp only [App.unown]
    have hgood : ∀ b, b = stepA xs i → b = false → goodA xs = false := fun b e h => goodA_bad hlt (by rw [← e]; exact h)
    have hnext : stepA xs i = true → ∀ j, j < i + 1 → stepA xs j = true := fun h => all_upto hinv h
    have hxa : ∀ (y : App), y.d' = D.st (.cons (.int .i64 y.i) (.cons (.int .i64 y.q) (.cons (.int .i64 y.d) (.cons (.sl false 1 (dl iD y.a)) (.cons (.sl false 1 (dl iD y.h)) (.cons (.int .i64 y.s) .nil)))))) := fun y => rfl
    cases i with
    | zero =>
      have hg : decide ((0 : Int) < ((0 : Nat) : Int)) = false := by decide
      have hl : ltA xs 0 x = true := rfl
      repeat' (first
          | (simp only [dl_len, dl_nth, App.noOwn, App.unown, apps_sub, onC_true, hg, ↓rd_app, ↓wA, ↓wC, wB, frzBE, frzBS, Nat.reduceEqDiff, Nat.reduceAdd, Nat.reduceSub, reduceIte, reduceCtorEq, Nat.reduceBEq, Nat.reduceLT, decide_true])
          | (refine call_det (hok) rfl rfl ?_)
          | (refine callP_det (hok) rfl rfl ?_)
          | (refine call_det (hpe) rfl rfl ?_)
          | (refine callP_det (hpe) rfl rfl ?_)
          | (refine call_det (hco) rfl rfl ?_)
          | (refine callP_det (hco) rfl rfl ?_)
          | (refine onC_i hbi ?_)
          | (refine onI_bare (by simp only [InR]; omega) ?_)
          | (refine execG_split (fun h => ?_) (fun h => ?_) <;> simp only [h])
          | (refine execC_split (fun h => ?_) (fun h => ?_) <;> (try simp only [h]))
          | (refine onPick_split (fun h => ?_) (fun h => ?_) <;> (try simp only [h])))
      all_goals first
        | exact next_range (weak_of _ rfl ⟨⟨rfl, rfl⟩, ⟨rfl, rfl⟩, ⟨rfl, rfl⟩, ⟨rfl, rfl⟩, trivial⟩) hlt (hnext (by clear hok hpe hco; simp_all <;> (intros; omega)))
        | (rw [goodA_bad hlt (by clear hok hpe hco; simp_all <;> (intros; omega))])
    | succ k =>
      obtain ⟨y, hy⟩ := get_lt (show k < xs.length by omega)
      have hg : decide ((0 : Int) < ((k + 1 : Nat) : Int)) = true := decide_eq_true (by omega)
      have h1 : (0 : Int) ≤ ((k + 1 : Nat) : Int) - 1 := by omega
      have hy' : xs[(((k + 1 : Nat) : Int) - 1).toNat]? = some y := by rw [show (((k + 1 : Nat) : Int) - 1).toNat = k by omega]; exact hy
      have hl : ltA xs (k + 1) x = decide (y.i < x.i) := by simp only [ltA, hy]
      have hq : decide (x.i ≤ y.i) = !decide (y.i < x.i) := by
        by_cases h : y.i < x.i
        · rw [decide_eq_true h, decide_eq_false (by omega)]; rfl
        · rw [decide_eq_false h, decide_eq_true (by omega)]; rfl
      repeat' (first
          | (simp only [dl_len, dl_nth, App.noOwn, App.unown, apps_sub, onC_true, hg, h1, hy', Option.map_some, ↓fa_app0, ↓rd_app, ↓wA, ↓wC, wB, frzBE, frzBS, Nat.reduceEqDiff, Nat.reduceAdd, Nat.reduceSub, reduceIte, reduceCtorEq, Nat.reduceBEq, Nat.reduceLT, decide_true])
          | (refine call_det (hok) rfl rfl ?_)
          | (refine callP_det (hok) rfl rfl ?_)
          | (refine call_det (hpe) rfl rfl ?_)
          | (refine callP_det (hpe) rfl rfl ?_)
          | (refine call_det (hco) rfl rfl ?_)
          | (refine callP_det (hco) rfl rfl ?_)
          | (refine onC_i hbi ?_)
          | (refine onI_bare (by simp only [InR]; omega) ?_)
          | (refine execG_split (fun h => ?_) (fun h => ?_) <;> simp only [h])
          | (refine execC_split (fun h => ?_) (fun h => ?_) <;> (try simp only [h]))
          | (refine onPick_split (fun h => ?_) (fun h => ?_) <;> (try simp only [h])))
      all_goals first
        | exact next_range (weak_of _ rfl ⟨⟨rfl, rfl⟩, ⟨rfl, rfl⟩, ⟨rfl, rfl⟩, ⟨rfl, rfl⟩, trivial⟩) hlt (hnext (by clear hok hpe hco; simp_all <;> (intros; omega)))
        | (rw [goodA_bad hlt (by clear hok hpe hco; simp_all <;> (intros; omega))])
  · intro hinv hd
    simp only [hd, dl_len, ↓wA, ↓wC, wB, frzBE, frzBS, Nat.reduceEqDiff, Nat.reduceAdd, Nat.reduceSub, reduceIte, reduceCtorEq, Nat.reduceBEq, Nat.reduceLT, decide_true]
    rw [goodA_all hinv]
end Go.Pe.Try

set_option maxRecDepth 100000
set_option maxHeartbeats 4000000
set_option linter.all false
namespace Go.Pe.Try
open Go.Proofs.Try
theorem okA_s {x : App} (h : okA x = true) : 0 ≤ x.s ∧ x.s ≤ 4 := by
  simp only [okA, Bool.and_eq_true] at h
  have := h.1.1.1.1.1.1.2
  simp only [within, Bool.and_eq_true, decide_eq_true_eq] at this
  exact this
theorem pend_le {x : App} (h : okA x = true) : pend x = decide (x.s ≤ 1) := by
  have := okA_s h
  unfold pend
  by_cases h0 : x.s = 0
  · simp [h0]
  · by_cases h1 : x.s = 1
    · simp [h1]
    · rw [decide_eq_false h0, decide_eq_false h1, decide_eq_false (by omega)]; rfl
theorem stepA_ok {xs : List App} {i : Nat} {x : App} (hr : xs[i]? = some x) (h : stepA xs i = true) : okA x = true := by
  rw [stepA_at hr] at h
  simp only [Bool.and_eq_true] at h
  exact h.1.1
theorem same_of {x y : App} (hx : okA x = true) (hy : okA y = true) : (pend x && sameA x y) = (decide (y.q = x.q) && decide (y.s ≤ 1) && decide (x.s ≤ 1)) := by
  rw [sameA, pend_le hx, pend_le hy, Bool.and_comm]
theorem step_bad {xs : List App} {i k : Nat} {x y : App} (hr : xs[i]? = some x) (hy : xs[k]? = some y) (hk : k < i) (hox : okA x = true) (hoy : okA y = true) (h : (decide (y.q = x.q) && decide (y.s ≤ 1) && decide (x.s ≤ 1)) = true) : stepA xs i = false := by
  rw [← same_of hox hoy, Bool.and_eq_true] at h
  rw [stepA_at hr]
  have : (xs.take i).any (sameA x) = true := List.any_eq_true.2 ⟨y, List.mem_of_getElem? (by rw [List.getElem?_take, if_pos hk]; exact hy), h.2⟩
  rw [this, h.1]; simp
theorem step_good {xs : List App} {i : Nat} {x : App} (hr : xs[i]? = some x) (hinv : ∀ j, j < i → stepA xs j = true) (hox : okA x = true) (hl : ltA xs i x = true) (h : ∀ k y, k < i → xs[k]? = some y → (decide (y.q = x.q) && decide (y.s ≤ 1) && decide (x.s ≤ 1)) = false) : stepA xs i = true := by
  rw [stepA_at hr, hox, hl]
  cases hp : pend x with
  | false => rfl
  | true =>
    have : (xs.take i).any (sameA x) = false := List.any_eq_false.2 fun y hy => by
      obtain ⟨k, hk⟩ := List.getElem?_of_mem hy
      have hk2 := lt_of_get hk
      rw [List.length_take] at hk2
      rw [List.getElem?_take, if_pos (by omega)] at hk
      have h1 := h k y (by omega) hk
      rw [← same_of hox (stepA_ok hk (hinv k (by omega))), hp] at h1
      simpa using h1
    rw [this]; rfl
def noSame (xs : List App) (x : App) (k : Nat) : Prop := ∀ j y, j < k → xs[j]? = some y → (decide (y.q = x.q) && decide (y.s ≤ 1) && decide (x.s ≤ 1)) = false
theorem noSame_up {xs : List App} {x z : App} {k : Nat} (h : noSame xs x k) (hz : xs[k]? = some z) (hb : (decide (z.q = x.q) && decide (z.s ≤ 1) && decide (x.s ≤ 1)) = false) : noSame xs x (k + 1) := fun j y hj hy => by
  by_cases e : j = k
  · subst e; rw [hz] at hy; injection hy with hy; rw [← hy]; exact hb
  · exact h j y (by omega) hy
theorem prevA {xs : List App} {i : Nat} {x : App} (hlt : i < xs.length) : (decide ((0 : Int) < (i : Int)) = false ∧ ltA xs i x = true) ∨ ∃ y, decide ((0 : Int) < (i : Int)) = true ∧ (0 : Int) ≤ (i : Int) - 1 ∧ xs[((i : Int) - 1).toNat]? = some y ∧ decide (x.i ≤ y.i) = !ltA xs i x := by
  cases i with
  | zero => exact .inl ⟨by decide, rfl⟩
  | succ k =>
    obtain ⟨y, hy⟩ := get_lt (show k < xs.length by omega)
    refine .inr ⟨y, decide_eq_true (by omega), by omega, by rw [show (((k + 1 : Nat) : Int) - 1).toNat = k by omega]; exact hy, ?_⟩
    simp only [ltA, hy]
    by_cases h : y.i < x.i
    · rw [decide_eq_true h, decide_eq_false (by omega)]; rfl
    · rw [decide_eq_false h, decide_eq_true (by omega)]; rfl
theorem l24Good_big (xs : List App) (hlen : xs.length ≤ 2000000) (hx : ∀ x ∈ xs, x.ok0) : Fn prog 63 [.sl false 6 (appsD xs)] (fun rs => rs = [.bool (goodA xs)]) := by
  refine Fn_ofg (ps := [[1, 0, 1, 0, 0, 1, 0, 0, 1, 0, 0]]) (fn := f63) (by exact func63) c63 r63 (n := 67) (by rfl) (rv := [.tmp 2]) (by rfl) (by simp) ?_
  unfold m63
  simp only [ghAll, ghAt]
  simp only [dl_len, ↓wA, ↓wC, wB, frzBE, frzBS, Nat.reduceEqDiff, Nat.reduceAdd, Nat.reduceSub, reduceIte, reduceCtorEq, Nat.reduceBEq, Nat.reduceLT, decide_true]
  refine exec_loop (fun i : Nat => ⟨[(0, .d (.sl false 6 (appsD xs))), (3, .d (.int .i64 i))], []⟩) (fun i => i ≤ xs.length ∧ i ≤ 11 ∧ ∀ j, j < i → stepA xs j = true) (fun i => xs.length - i) 0 (weak_of _ rfl ⟨⟨rfl, rfl⟩, ⟨rfl, rfl⟩, trivial⟩) ⟨by omega, by omega, fun j hj => by omega⟩ ?_
  rintro i ⟨hi, hi11, hinv⟩
  by_cases hlt : i < xs.length
  · have hd : decide ((i : Int) < (xs.length : Int)) = true := decide_eq_true (by omega)
    by_cases h11 : i ≤ 10
    · have hd2 : decide ((i : Int) ≤ 10) = true := decide_eq_true (by omega)
      have h0 : (0 : Int) ≤ (i : Int) := by omega
      obtain ⟨x, hr⟩ := get_lt hlt
      have hxo := hx x (List.mem_of_getElem? hr)
      have hst := stepA_at hr
      have hok := l24One_fn x hxo
      simp only [dl_len, hd, hd2, h0, dl_nth, Int.toNat_natCast, hr, Option.map_some, onC_true, ↓rd_app, oa_size, oa_isV, App.noOwn, App.unown, ↓wA, ↓wC, wB, frzBE, frzBS, Nat.reduceEqDiff, Nat.reduceAdd, Nat.reduceSub, reduceIte, reduceCtorEq, Nat.reduceBEq, Nat.reduceLT, decide_true]
      refine exec_gh1 (frzB 0 rfl) ?_
      simp only [App.unown]
      rcases prevA (x := x) hlt with ⟨hg, hl⟩ | ⟨y, hg, h1, hy', hl⟩
      case' inl => repeat' (first
     | (simp only [dl_len, dl_nth, App.noOwn, App.unown, onC_true, hg, ↓rd_app, ↓wA, ↓wC, wB, frzBE, frzBS, Nat.reduceEqDiff, Nat.reduceAdd, Nat.reduceSub, reduceIte, reduceCtorEq, Nat.reduceBEq, Nat.reduceLT, decide_true])
     | (refine call_det (hok) rfl rfl ?_)
     | (refine callP_det (hok) rfl rfl ?_)
     | (refine execG_split (fun h => ?_) (fun h => ?_) <;> simp only [h])
     | (refine execC_split (fun h => ?_) (fun h => ?_) <;> (try simp only [h]))
     | (refine onPick_split (fun h => ?_) (fun h => ?_) <;> (try simp only [h])))
      case' inr => repeat' (first
     | (simp only [dl_len, dl_nth, App.noOwn, App.unown, onC_true, hg, h1, hy', Option.map_some, ↓fa_app0, ↓rd_app, ↓wA, ↓wC, wB, frzBE, frzBS, Nat.reduceEqDiff, Nat.reduceAdd, Nat.reduceSub, reduceIte, reduceCtorEq, Nat.reduceBEq, Nat.reduceLT, decide_true])
     | (refine call_det (hok) rfl rfl ?_)
     | (refine callP_det (hok) rfl rfl ?_)
     | (refine onI_bare (by simp only [InR]; omega) ?_)
     | (refine execG_split (fun h => ?_) (fun h => ?_) <;> simp only [h])
     | (refine execC_split (fun h => ?_) (fun h => ?_) <;> (try simp only [h]))
     | (refine onPick_split (fun h => ?_) (fun h => ?_) <;> (try simp only [h])))
      any_goals (rw [goodA_bad hlt (by clear hok; simp_all)]; done)
      all_goals
        have hox : okA x = true := by clear hok; simp_all
        have hlx : ltA xs i x = true := by clear hok; simp_all
        refine exec_range i (fun k : Nat => ⟨[(0, .d (.sl false 6 (appsD xs))), (3, .d (.int .i64 i)), (4, .d (.ptr x.d')), (5, .d (.int .i64 k))], []⟩) (noSame xs x) (weak_of _ rfl ⟨⟨rfl, rfl⟩, ⟨rfl, rfl⟩, ⟨rfl, rfl⟩, ⟨rfl, rfl⟩, trivial⟩) (fun j y hj => by omega) ?_ ?_
        · intro k hki hk hdk hk0
          obtain ⟨z, hz⟩ := get_lt (show k < xs.length by omega)
          have hoz := stepA_ok hz (hinv k hki)
          have hb := step_bad hr hz hki hox hoz
          repeat' (first
              | (simp only [dl_len, dl_nth, hdk, hk0, Int.toNat_natCast, hz, Option.map_some, onC_true, ↓fa_app1, ↓fa_app5, ↓wA, ↓wC, wB, frzBE, frzBS, Nat.reduceEqDiff, Nat.reduceAdd, Nat.reduceSub, reduceIte, reduceCtorEq, Nat.reduceBEq, Nat.reduceLT, decide_true])
              | (refine onI_bare (by simp only [InR]; omega) ?_)
              | (refine execG_split (fun h => ?_) (fun h => ?_) <;> simp only [h])
              | (refine execC_split (fun h => ?_) (fun h => ?_) <;> (try simp only [h]))
              | (refine onPick_split (fun h => ?_) (fun h => ?_) <;> (try simp only [h])))
          all_goals first
            | (rw [goodA_bad hlt (hb (by clear hok hb; simp_all))]; done)
            | (refine next_range (weak_of _ rfl ⟨⟨rfl, rfl⟩, ⟨rfl, rfl⟩, ⟨rfl, rfl⟩, ⟨rfl, rfl⟩, trivial⟩) hki (noSame_up hk hz ?_); clear hok hb hk; simp_all <;> (intros; omega))
        · intro hk hdk
          have hgo := step_good hr hinv hox hlx hk
          repeat' (first
              | (simp only [hdk, ↓wA, ↓wC, wB, frzBE, frzBS, Nat.reduceEqDiff, Nat.reduceAdd, Nat.reduceSub, reduceIte, reduceCtorEq, Nat.reduceBEq, Nat.reduceLT, decide_true])
              | (refine onI_bare (by simp only [InR]; omega) ?_)
              | (refine execG_split (fun h => ?_) (fun h => ?_) <;> simp only [h])
              | (refine execC_split (fun h => ?_) (fun h => ?_) <;> (try simp only [h]))
              | (refine onPick_split (fun h => ?_) (fun h => ?_) <;> (try simp only [h])))
          all_goals exact ⟨i + 1, (weak_of _ rfl ⟨⟨rfl, rfl⟩, ⟨rfl, rfl⟩, trivial⟩), ⟨by omega, by omega, all_upto hinv hgo⟩, by omega⟩
    · have hd2 : decide ((i : Int) ≤ 10) = false := decide_eq_false (by omega)
      have hf : decide ((xs.length : Int) ≤ 10) = false := decide_eq_false (by omega)
      simp only [hd, hd2, dl_len, ↓wA, ↓wC, wB, frzBE, frzBS, Nat.reduceEqDiff, Nat.reduceAdd, Nat.reduceSub, reduceIte, reduceCtorEq, Nat.reduceBEq, Nat.reduceLT, decide_true]
      rw [goodA, hf]; rfl
  · have hd : decide ((i : Int) < (xs.length : Int)) = false := decide_eq_false (by omega)
    have e : i = xs.length := by omega
    simp only [hd, dl_len, ↓wA, ↓wC, wB, frzBE, frzBS, Nat.reduceEqDiff, Nat.reduceAdd, Nat.reduceSub, reduceIte, reduceCtorEq, Nat.reduceBEq, Nat.reduceLT, decide_true]
    rw [goodA_all (fun j hj => hinv j (by omega))]
theorem l24Good_fn (xs : List App) (hlen : xs.length ≤ 1048576) (hx : ∀ x ∈ xs, x.ok0) : Fn prog 63 [.sl false 6 (appsD xs)] (fun rs => rs = [.bool (goodA xs)]) := l24Good_big xs (by omega) hx
end Go.Pe.Try

set_option maxRecDepth 100000
set_option maxHeartbeats 4000000
set_option linter.all false
namespace Go.Pe.Try
open Go.Proofs.Try
structure App.wf (x : App) : Prop where
  i : InR .i64 x.i
  q : InR .i64 x.q
  d : InR .i64 x.d
  s : InR .i64 x.s
  al : x.a.length ≤ maxLen
  hl : x.h.length ≤ maxLen
  a : ∀ n ∈ x.a, InR .i64 n
  h : ∀ n ∈ x.h, InR .i64 n
end Go.Pe.Try

set_option maxRecDepth 100000
set_option maxHeartbeats 4000000
set_option linter.all false
namespace Go.Pe.Try
open Go.Proofs.Try
theorem l1Most_fn (a b : Int) : Fn prog 100 [.int .i64 a, .int .i64 b] (fun rs => rs = [.int .i64 (if b < a then a else b)]) := by
  refine Fn_of' (fn := f100) (by exact func100) c100 r100 (n := 10) (by rfl) (rv := [.tmp 4]) (by rfl) (by simp) ?_
  unfold m100
  repeat' (first
      | (simp only [↓wA, ↓wC, wB, frzBE, frzBS, Nat.reduceEqDiff, Nat.reduceAdd, Nat.reduceSub, reduceIte, reduceCtorEq, Nat.reduceBEq, Nat.reduceLT, decide_true])
      | (refine execG_split (fun h => ?_) (fun h => ?_) <;> simp only [h])
      | (refine execC_split (fun h => ?_) (fun h => ?_) <;> (try simp only [h]))
      | (refine onPick_split (fun h => ?_) (fun h => ?_) <;> (try simp only [h])))
  all_goals simp_all
  all_goals omega
theorem tmod_cast (a b : Nat) : ((a : Int).tmod (b : Int)) = ((a % b : Nat) : Int) := rfl
theorem abs_fn (a : Nat) : Fn prog 137 [.int .i64 a] (fun rs => rs = [.int .i64 a]) := by
  have hd : decide ((a : Int) < 0) = false := decide_eq_false (by omega)
  refine Fn_of' (fn := f137) (by exact func137) c137 r137 (n := 8) (by rfl) (rv := [.tmp 2]) (by rfl) (by simp) ?_
  unfold m137
  simp only [hd, ↓wA, ↓wC, wB, frzBE, frzBS, Nat.reduceEqDiff, Nat.reduceAdd, Nat.reduceSub, reduceIte, reduceCtorEq, Nat.reduceBEq, Nat.reduceLT, decide_true]
theorem gcd_fn (a b : Nat) : Fn prog 127 [.int .i64 a, .int .i64 b] (fun rs => rs = [.int .i64 (Nat.gcd a b)]) := by
  refine Fn_of' (fn := f127) (by exact func127) c127 r127 (n := 16) (by rfl) (rv := [.tmp 4]) (by rfl) (by simp) ?_
  unfold m127
  try simp only [↓wA, ↓wC, wB, frzBE, frzBS, Nat.reduceEqDiff, Nat.reduceAdd, Nat.reduceSub, reduceIte, reduceCtorEq, Nat.reduceBEq, Nat.reduceLT, decide_true]
  refine call_det (abs_fn a) rfl rfl ?_
  try simp only [↓wA, ↓wC, wB, frzBE, frzBS, Nat.reduceEqDiff, Nat.reduceAdd, Nat.reduceSub, reduceIte, reduceCtorEq, Nat.reduceBEq, Nat.reduceLT, decide_true]
  refine call_det (abs_fn b) rfl rfl ?_
  try simp only [↓wA, ↓wC, wB, frzBE, frzBS, Nat.reduceEqDiff, Nat.reduceAdd, Nat.reduceSub, reduceIte, reduceCtorEq, Nat.reduceBEq, Nat.reduceLT, decide_true]
  refine exec_loop (fun p : Nat × Nat => ⟨[(0, .d (.int .i64 p.1)), (1, .d (.int .i64 p.2))], []⟩) (fun p => Nat.gcd p.1 p.2 = Nat.gcd a b) (fun p => p.2) (a, b) (weak_of [] rfl ⟨⟨rfl, rfl⟩, ⟨rfl, rfl⟩, trivial⟩) rfl ?_
  rintro ⟨p, q⟩ hg
  simp only at hg
  by_cases hq : q = 0
  · subst hq
    have hd : decide (((0 : Nat) : Int) = 0) = true := decide_eq_true rfl
    try simp only [hd, ↓wA, ↓wC, wB, frzBE, frzBS, Nat.reduceEqDiff, Nat.reduceAdd, Nat.reduceSub, reduceIte, reduceCtorEq, Nat.reduceBEq, Nat.reduceLT, decide_true]
    rw [← hg, Nat.gcd_zero_right]
  · have hd : decide ((q : Int) = 0) = false := decide_eq_false (by omega)
    try simp only [hd, ↓wA, ↓wC, wB, frzBE, frzBS, Nat.reduceEqDiff, Nat.reduceAdd, Nat.reduceSub, reduceIte, reduceCtorEq, Nat.reduceBEq, Nat.reduceLT, decide_true]
    refine onC_i (by omega) ?_
    try simp only [tmod_cast, ↓wA, ↓wC, wB, frzBE, frzBS, Nat.reduceEqDiff, Nat.reduceAdd, Nat.reduceSub, reduceIte, reduceCtorEq, Nat.reduceBEq, Nat.reduceLT, decide_true]
    exact ⟨(q, p % q), weak_of [] rfl ⟨⟨rfl, rfl⟩, ⟨rfl, rfl⟩, trivial⟩, by rw [← hg, Nat.gcd_comm p q, Nat.gcd_rec q p, Nat.gcd_comm], Nat.mod_lt _ (by omega)⟩
def lowest (a b : Nat) : List D := [.int .i64 ((a : Int).tdiv (Nat.gcd a b : Nat)), .int .i64 ((b : Int).tdiv (Nat.gcd a b : Nat))]
theorem tdiv_inR (a g : Nat) (h : a ≤ 1000000) : InR .i64 ((a : Int).tdiv (g : Int)) := by
  have h1 : 0 ≤ (a : Int).tdiv (g : Int) := Int.tdiv_nonneg (by omega) (by omega)
  have h2 : (a : Int).tdiv (g : Int) ≤ a := Int.tdiv_le_self _ (by omega)
  exact ⟨by omega, by omega⟩
theorem reduced_fn (a b : Nat) (ha : a ≤ 1000000) (hb : b ≤ 1000000) (h0 : 0 < b) : Fn prog 82 [.int .i64 a, .int .i64 b] (fun rs => rs = lowest a b) := by
  have hg : ((Nat.gcd a b : Nat) : Int) ≠ 0 := by have := Nat.gcd_pos_of_pos_right a h0; omega
  refine Fn_of' (fn := f82) (by exact func82) c82 r82 (n := 16) (by rfl) (rv := [.tmp 4, .tmp 5]) (by rfl) (by simp) ?_
  unfold m82
  try simp only [↓wA, ↓wC, wB, frzBE, frzBS, Nat.reduceEqDiff, Nat.reduceAdd, Nat.reduceSub, reduceIte, reduceCtorEq, Nat.reduceBEq, Nat.reduceLT, decide_true]
  refine call_det (gcd_fn a b) rfl rfl ?_
  try simp only [↓wA, ↓wC, wB, frzBE, frzBS, Nat.reduceEqDiff, Nat.reduceAdd, Nat.reduceSub, reduceIte, reduceCtorEq, Nat.reduceBEq, Nat.reduceLT, decide_true]
  refine onC_i hg ?_
  try simp only [↓wA, ↓wC, wB, frzBE, frzBS, Nat.reduceEqDiff, Nat.reduceAdd, Nat.reduceSub, reduceIte, reduceCtorEq, Nat.reduceBEq, Nat.reduceLT, decide_true]
  refine onI_bare (tdiv_inR a _ ha) ?_
  try simp only [↓wA, ↓wC, wB, frzBE, frzBS, Nat.reduceEqDiff, Nat.reduceAdd, Nat.reduceSub, reduceIte, reduceCtorEq, Nat.reduceBEq, Nat.reduceLT, decide_true]
  refine onC_i hg ?_
  try simp only [↓wA, ↓wC, wB, frzBE, frzBS, Nat.reduceEqDiff, Nat.reduceAdd, Nat.reduceSub, reduceIte, reduceCtorEq, Nat.reduceBEq, Nat.reduceLT, decide_true]
  refine onI_bare (tdiv_inR b _ hb) ?_
  try simp only [↓wA, ↓wC, wB, frzBE, frzBS, Nat.reduceEqDiff, Nat.reduceAdd, Nat.reduceSub, reduceIte, reduceCtorEq, Nat.reduceBEq, Nat.reduceLT, decide_true]
  rfl
theorem l2Reduce_fn (a b : Nat) (ha : a ≤ 1000000) (hb : b ≤ 1000000) (h0 : 0 < b) : Fn prog 83 [.int .i64 a, .int .i64 b] (fun rs => rs = lowest a b) := by
  have hg : ((Nat.gcd a b : Nat) : Int) ≠ 0 := by have := Nat.gcd_pos_of_pos_right a h0; omega
  have hm : (if -(a : Int) < (a : Int) then (a : Int) else -(a : Int)) = a := by split <;> omega
  refine Fn_of' (fn := f83) (by exact func83) c83 r83 (n := 27) (by rfl) (rv := [.tmp 4, .tmp 5]) (by rfl) (by simp) ?_
  unfold m83
  try simp only [↓wA, ↓wC, wB, frzBE, frzBS, Nat.reduceEqDiff, Nat.reduceAdd, Nat.reduceSub, reduceIte, reduceCtorEq, Nat.reduceBEq, Nat.reduceLT, decide_true]
  refine onI_bare (by simp only [InR]; omega) ?_
  try simp only [↓wA, ↓wC, wB, frzBE, frzBS, Nat.reduceEqDiff, Nat.reduceAdd, Nat.reduceSub, reduceIte, reduceCtorEq, Nat.reduceBEq, Nat.reduceLT, decide_true]
  refine call_det (l1Most_fn _ _) rfl rfl ?_
  try simp only [hm, ↓wA, ↓wC, wB, frzBE, frzBS, Nat.reduceEqDiff, Nat.reduceAdd, Nat.reduceSub, reduceIte, reduceCtorEq, Nat.reduceBEq, Nat.reduceLT, decide_true]
  refine exec_loop (fun p : Nat × Nat => ⟨[(0, .d (.int .i64 a)), (1, .d (.int .i64 b)), (6, .d (.int .i64 p.1)), (7, .d (.int .i64 p.2))], []⟩) (fun p => Nat.gcd p.1 p.2 = Nat.gcd a b) (fun p => p.2) (a, b) (weak_of [] rfl ⟨⟨rfl, rfl⟩, ⟨rfl, rfl⟩, ⟨rfl, rfl⟩, ⟨rfl, rfl⟩, trivial⟩) rfl ?_
  rintro ⟨p, q⟩ hgp
  simp only at hgp
  by_cases hq : q = 0
  · subst hq
    have hd : decide (((0 : Nat) : Int) = 0) = true := decide_eq_true rfl
    have hp : p = Nat.gcd a b := by rw [← hgp, Nat.gcd_zero_right]
    subst hp
    try simp only [hd, ↓wA, ↓wC, wB, frzBE, frzBS, Nat.reduceEqDiff, Nat.reduceAdd, Nat.reduceSub, reduceIte, reduceCtorEq, Nat.reduceBEq, Nat.reduceLT, decide_true]
    refine onC_i hg ?_
    try simp only [↓wA, ↓wC, wB, frzBE, frzBS, Nat.reduceEqDiff, Nat.reduceAdd, Nat.reduceSub, reduceIte, reduceCtorEq, Nat.reduceBEq, Nat.reduceLT, decide_true]
    refine onI_bare (tdiv_inR a _ ha) ?_
    try simp only [↓wA, ↓wC, wB, frzBE, frzBS, Nat.reduceEqDiff, Nat.reduceAdd, Nat.reduceSub, reduceIte, reduceCtorEq, Nat.reduceBEq, Nat.reduceLT, decide_true]
    refine onC_i hg ?_
    try simp only [↓wA, ↓wC, wB, frzBE, frzBS, Nat.reduceEqDiff, Nat.reduceAdd, Nat.reduceSub, reduceIte, reduceCtorEq, Nat.reduceBEq, Nat.reduceLT, decide_true]
    refine onI_bare (tdiv_inR b _ hb) ?_
    try simp only [↓wA, ↓wC, wB, frzBE, frzBS, Nat.reduceEqDiff, Nat.reduceAdd, Nat.reduceSub, reduceIte, reduceCtorEq, Nat.reduceBEq, Nat.reduceLT, decide_true]
    rfl
  · have hd : decide ((q : Int) = 0) = false := decide_eq_false (by omega)
    try simp only [hd, ↓wA, ↓wC, wB, frzBE, frzBS, Nat.reduceEqDiff, Nat.reduceAdd, Nat.reduceSub, reduceIte, reduceCtorEq, Nat.reduceBEq, Nat.reduceLT, decide_true]
    refine onC_i (by omega) ?_
    try simp only [tmod_cast, ↓wA, ↓wC, wB, frzBE, frzBS, Nat.reduceEqDiff, Nat.reduceAdd, Nat.reduceSub, reduceIte, reduceCtorEq, Nat.reduceBEq, Nat.reduceLT, decide_true]
    exact ⟨(q, p % q), weak_of [] rfl ⟨⟨rfl, rfl⟩, ⟨rfl, rfl⟩, ⟨rfl, rfl⟩, ⟨rfl, rfl⟩, trivial⟩, by rw [← hgp, Nat.gcd_comm p q, Nat.gcd_rec q p, Nat.gcd_comm], Nat.mod_lt _ (by omega)⟩
end Go.Pe.Try

set_option maxRecDepth 100000
set_option maxHeartbeats 4000000
set_option linter.all false
namespace Go.Pe.Try
open Go.Proofs.Try
def findA (xs : List App) (id : Int) : Int := idxOf (fun x : App => decide (x.i = id)) xs
theorem atClo_fn (x : App) (id : Int) : Fn prog 120 [x.d', .ptr (.int .i64 id)] (fun rs => rs = [.bool (decide (x.i = id))]) := by
  refine Fn_of' (fn := f120) (by exact func120) c120 r120 (n := 8) (by rfl) (rv := [.tmp 3]) (by rfl) (by simp) ?_
  unfold m120
  simp only [App.d']
  repeat' (first
      | (simp only [ints_noOwn, onC_true, ↓wA, ↓wC, wB, frzBE, frzBS, Nat.reduceEqDiff, Nat.reduceAdd, Nat.reduceSub, reduceIte, reduceCtorEq, Nat.reduceBEq, Nat.reduceLT, decide_true])
      | (refine execG_split (fun h => ?_) (fun h => ?_) <;> simp only [h])
      | (refine execC_split (fun h => ?_) (fun h => ?_) <;> (try simp only [h]))
      | (refine onPick_split (fun h => ?_) (fun h => ?_) <;> (try simp only [h])))
theorem appealAt_fn (xs : List App) (id : Int) (hlen : xs.length ≤ 1048576) : Fn prog 66 [.sl false 6 (appsD xs), .int .i64 id] (fun rs => rs = [.int .i64 (findA xs id)]) := by
  have h := indexFuncA_fn (fun x => decide (x.i = id)) 120 (.cons (.ptr (.int .i64 id)) .nil) xs rfl en120 hlen (fun x _ => atClo_fn x id)
  refine Fn_ofg (ps := [[1, 0]]) (fn := f66) (by exact func66) c66 r66 (n := 8) (by rfl) (rv := [.tmp 4]) (by rfl) (by simp) ?_
  unfold m66
  simp only [ghAll, ghAt]
  simp only [↓wA, ↓wC, wB, frzBE, frzBS, Nat.reduceEqDiff, Nat.reduceAdd, Nat.reduceSub, reduceIte, reduceCtorEq, Nat.reduceBEq, Nat.reduceLT, decide_true]
  refine exec_gh1 (frzB 0 rfl) ?_
  repeat' (first
      | (simp only [↓wA, ↓wC, wB, frzBE, frzBS, Nat.reduceEqDiff, Nat.reduceAdd, Nat.reduceSub, reduceIte, reduceCtorEq, Nat.reduceBEq, Nat.reduceLT, decide_true])
      | (refine call_det (h) rfl rfl ?_)
      | (refine callP_det (h) rfl rfl ?_)
      | (refine execG_split (fun h => ?_) (fun h => ?_) <;> simp only [h])
      | (refine execC_split (fun h => ?_) (fun h => ?_) <;> (try simp only [h]))
      | (refine onPick_split (fun h => ?_) (fun h => ?_) <;> (try simp only [h])))
  all_goals rfl
theorem l24Find_fn (xs : List App) (id : Int) (hlen : xs.length ≤ 1048576) : Fn prog 62 [.sl false 6 (appsD xs), .int .i64 id] (fun rs => rs = [.int .i64 (findA xs id)]) := by
  refine Fn_of' (fn := f62) (by exact func62) c62 r62 (n := 20) (by rfl) (rv := [.tmp 4]) (by rfl) (by simp) ?_
  unfold m62
  simp only [↓wA, ↓wC, wB, frzBE, frzBS, Nat.reduceEqDiff, Nat.reduceAdd, Nat.reduceSub, reduceIte, reduceCtorEq, Nat.reduceBEq, Nat.reduceLT, decide_true]
  refine exec_range xs.length (fun i : Nat => ⟨[(0, .d (.sl false 6 (appsD xs))), (1, .d (.int .i64 id)), (5, .d (.int .i64 i))], []⟩) (fun i => ∀ j r, j < i → xs[j]? = some r → decide (r.i = id) = false) (weak_of _ rfl ⟨⟨rfl, rfl⟩, ⟨rfl, rfl⟩, ⟨rfl, rfl⟩, trivial⟩) (fun j r hj => by omega) ?_ ?_
  · intro i hlt hinv hd h0
    obtain ⟨r, hr⟩ := get_lt hlt
    repeat' (first
        | (simp only [dl_len, dl_nth, hd, h0, Int.toNat_natCast, hr, Option.map_some, onC_true, ↓fa_app0, ↓wA, ↓wC, wB, frzBE, frzBS, Nat.reduceEqDiff, Nat.reduceAdd, Nat.reduceSub, reduceIte, reduceCtorEq, Nat.reduceBEq, Nat.reduceLT, decide_true])
        | (refine onI_bare (by simp only [InR]; omega) ?_)
        | (refine execG_split (fun h => ?_) (fun h => ?_) <;> simp only [h])
        | (refine execC_split (fun h => ?_) (fun h => ?_) <;> (try simp only [h]))
        | (refine onPick_split (fun h => ?_) (fun h => ?_) <;> (try simp only [h])))
    · rw [findA, idxOf_hit hr h hinv]
    · refine next_range (weak_of _ rfl ⟨⟨rfl, rfl⟩, ⟨rfl, rfl⟩, ⟨rfl, rfl⟩, trivial⟩) hlt fun j s hj hs => ?_
      by_cases e : j = i
      · subst e; rw [hr] at hs; injection hs with hs; rw [← hs]; exact h
      · exact hinv j s (by omega) hs
  · intro hinv hd
    repeat' (first
        | (simp only [dl_len, hd, ↓wA, ↓wC, wB, frzBE, frzBS, Nat.reduceEqDiff, Nat.reduceAdd, Nat.reduceSub, reduceIte, reduceCtorEq, Nat.reduceBEq, Nat.reduceLT, decide_true])
        | (refine execG_split (fun h => ?_) (fun h => ?_) <;> simp only [h])
        | (refine execC_split (fun h => ?_) (fun h => ?_) <;> (try simp only [h]))
        | (refine onPick_split (fun h => ?_) (fun h => ?_) <;> (try simp only [h])))
    all_goals rw [findA, idxOf_none fun j r hj => hinv j r (lt_of_get hj) hj]
theorem goodA_ok {xs : List App} (h : goodA xs = true) : xs.length ≤ 10 ∧ (∀ j, j < xs.length → stepA xs j = true) ∧ ∀ x ∈ xs, okA x = true := by
  simp only [goodA, Bool.and_eq_true, List.all_eq_true, List.mem_range, decide_eq_true_eq] at h
  refine ⟨by omega, h.2, fun x hx => ?_⟩
  obtain ⟨j, hj⟩ := List.getElem?_of_mem hx
  exact stepA_ok hj (h.2 j (lt_of_get hj))
theorem within_iff {n a b : Int} : within n a b = true ↔ a ≤ n ∧ n ≤ b := by
  simp [within]
theorem okA_parts {x : App} (h : okA x = true) : (1 ≤ x.i ∧ x.i ≤ 999) ∧ (1 ≤ x.q ∧ x.q ≤ 999) ∧ (0 ≤ x.d ∧ x.d ≤ 20000) ∧ (0 ≤ x.s ∧ x.s ≤ 4) ∧ x.a.length ≤ 6 ∧ rises x.a = true ∧ rises x.h = true ∧ (∀ n ∈ x.a, 1 ≤ n ∧ n ≤ 50) ∧ (∀ n ∈ x.h, n ∈ x.a) := by
  simp only [okA, Bool.and_eq_true, within_iff, List.all_eq_true, Bool.not_eq_true', decide_eq_false_iff_not, List.contains_iff_mem] at h
  obtain ⟨⟨⟨⟨⟨⟨⟨⟨⟨h1, h2⟩, h3⟩, h4⟩, h5⟩, h6⟩, h7⟩, h8⟩, h9⟩, _⟩ := h
  exact ⟨h1, h2, h3, h4, by omega, h6, h7, h8, h9⟩
theorem areDays_fn (a b : Int) : Fn prog 99 [.int .i64 a, .int .i64 b] (fun rs => rs = [.bool (within a 0 20000 && within b 0 20000 && decide (a ≤ b))]) := by
  refine Fn_of' (fn := f99) (by exact func99) c99 r99 (n := 16) (by rfl) (rv := [.tmp 4]) (by rfl) (by simp) ?_
  unfold m99
  repeat' (first
      | (simp only [↓wA, ↓wC, wB, frzBE, frzBS, Nat.reduceEqDiff, Nat.reduceAdd, Nat.reduceSub, reduceIte, reduceCtorEq, Nat.reduceBEq, Nat.reduceLT, decide_true])
      | (refine call_det (isDay_fn _) rfl rfl ?_)
      | (refine callP_det (isDay_fn _) rfl rfl ?_)
      | (refine execG_split (fun h => ?_) (fun h => ?_) <;> simp only [h])
      | (refine execC_split (fun h => ?_) (fun h => ?_) <;> (try simp only [h]))
      | (refine onPick_split (fun h => ?_) (fun h => ?_) <;> (try simp only [h])))
  all_goals simp_all
def dlOK (xs : List App) (x : App) (day : Int) : Bool := goodA xs && decide (x.s = 0) && within day 0 20000 && decide (x.d ≤ day)
def daysBad : List D := [.int .i64 0, .bool false]
def daysR (xs : List App) (id day : Int) : List D := match xs[(findA xs id).toNat]? with
  | some x => if (decide (0 ≤ findA xs id) && dlOK xs x day) = true then [.int .i64 (max (60 - (day - x.d)) 0), .bool true] else daysBad
  | none => daysBad
theorem find_cases (xs : List App) (id : Int) : (decide (findA xs id < 0) = true ∧ decide (0 ≤ findA xs id) = false) ∨ ∃ (i : Nat) (x : App), findA xs id = (i : Int) ∧ xs[i]? = some x ∧ x.i = id := by
  by_cases h : 0 ≤ findA xs id
  · obtain ⟨i, x, h1, h2, h3⟩ := idxOf_ge h
    exact .inr ⟨i, x, h1, h2, by simpa using h3⟩
  · exact .inl ⟨decide_eq_true (by omega), decide_eq_false h⟩
theorem daysR_neg {xs : List App} {id day : Int} (h : decide (0 ≤ findA xs id) = false) : daysR xs id day = daysBad := by
  unfold daysR
  rw [h]
  split <;> simp
theorem daysR_at {xs : List App} {id day : Int} {i : Nat} {x : App} (h : findA xs id = (i : Int)) (hr : xs[i]? = some x) : daysR xs id day = if dlOK xs x day = true then [.int .i64 (max (60 - (day - x.d)) 0), .bool true] else daysBad := by
  unfold daysR
  rw [h, Int.toNat_natCast, hr]
  simp
theorem daysLeft_fn (xs : List App) (id day : Int) (hlen : xs.length ≤ 1048576) (hx : ∀ x ∈ xs, x.ok0) : Fn prog 40 [.sl false 6 (appsD xs), .int .i64 id, .int .i64 day] (fun rs => rs = daysR xs id day) := by
  have hF := appealAt_fn xs id hlen
  have hG := areAppeals_fn xs hlen hx
  rcases find_cases xs id with ⟨hn, hn'⟩ | ⟨i, x, hi, hr, _⟩
  · rw [daysR_neg hn']
    refine Fn_of' (fn := f40) (by exact func40) c40 r40 (n := 46) (by rfl) (rv := [.tmp 6, .tmp 7]) (by rfl) (by simp) ?_
    unfold m40
    repeat' (first
        | (simp only [hn, ↓wA, ↓wC, wB, frzBE, frzBS, Nat.reduceEqDiff, Nat.reduceAdd, Nat.reduceSub, reduceIte, reduceCtorEq, Nat.reduceBEq, Nat.reduceLT, decide_true])
        | (refine call_det (hF) rfl rfl ?_)
        | (refine callP_det (hF) rfl rfl ?_)
        | (refine call_det (hG) rfl rfl ?_)
        | (refine callP_det (hG) rfl rfl ?_)
        | (refine execG_split (fun h => ?_) (fun h => ?_) <;> simp only [h])
        | (refine execC_split (fun h => ?_) (fun h => ?_) <;> (try simp only [h]))
        | (refine onPick_split (fun h => ?_) (fun h => ?_) <;> (try simp only [h])))
    all_goals rfl
  · rw [daysR_at hi hr]
    rw [hi] at hF
    have h0 : (0 : Int) ≤ (i : Int) := by omega
    have hn : decide ((i : Int) < 0) = false := decide_eq_false (by omega)
    have hd := areDays_fn x.d day
    cases hg : goodA xs with
    | false =>
      rw [hg] at hG
      refine Fn_of' (fn := f40) (by exact func40) c40 r40 (n := 46) (by rfl) (rv := [.tmp 6, .tmp 7]) (by rfl) (by simp) ?_
      unfold m40
      repeat' (first
          | (simp only [hn, ↓wA, ↓wC, wB, frzBE, frzBS, Nat.reduceEqDiff, Nat.reduceAdd, Nat.reduceSub, reduceIte, reduceCtorEq, Nat.reduceBEq, Nat.reduceLT, decide_true])
          | (refine call_det (hF) rfl rfl ?_)
          | (refine callP_det (hF) rfl rfl ?_)
          | (refine call_det (hG) rfl rfl ?_)
          | (refine callP_det (hG) rfl rfl ?_)
          | (refine execG_split (fun h => ?_) (fun h => ?_) <;> simp only [h])
          | (refine execC_split (fun h => ?_) (fun h => ?_) <;> (try simp only [h]))
          | (refine onPick_split (fun h => ?_) (fun h => ?_) <;> (try simp only [h])))
      all_goals simp [dlOK, hg, daysBad]
    | true =>
      rw [hg] at hG
      have hx1 := okA_parts ((goodA_ok hg).2.2 x (List.mem_of_getElem? hr))
      have hxd : within x.d 0 20000 = true := within_iff.2 hx1.2.2.1
      rw [hxd, Bool.true_and] at hd
      cases hc : (within day 0 20000 && decide (x.d ≤ day)) with
      | false =>
        rw [hc] at hd
        refine Fn_of' (fn := f40) (by exact func40) c40 r40 (n := 46) (by rfl) (rv := [.tmp 6, .tmp 7]) (by rfl) (by simp) ?_
        unfold m40
        repeat' (first
            | (simp only [hn, h0, dl_nth, Int.toNat_natCast, hr, Option.map_some, onC_true, ↓fa_app5, ↓fa_app2, ↓wA, ↓wC, wB, frzBE, frzBS, Nat.reduceEqDiff, Nat.reduceAdd, Nat.reduceSub, reduceIte, reduceCtorEq, Nat.reduceBEq, Nat.reduceLT, decide_true])
            | (refine call_det (hF) rfl rfl ?_)
            | (refine callP_det (hF) rfl rfl ?_)
            | (refine call_det (hG) rfl rfl ?_)
            | (refine callP_det (hG) rfl rfl ?_)
            | (refine call_det (hd) rfl rfl ?_)
            | (refine callP_det (hd) rfl rfl ?_)
            | (refine execG_split (fun h => ?_) (fun h => ?_) <;> simp only [h])
            | (refine execC_split (fun h => ?_) (fun h => ?_) <;> (try simp only [h]))
            | (refine onPick_split (fun h => ?_) (fun h => ?_) <;> (try simp only [h])))
        all_goals simp_all [dlOK, daysBad]
      | true =>
        rw [hc] at hd
        rw [Bool.and_eq_true, within_iff, decide_eq_true_eq] at hc
        obtain ⟨⟨hc1, hc2⟩, hc3⟩ := hc
        have hx3 := hx1.2.2.1
        refine Fn_of' (fn := f40) (by exact func40) c40 r40 (n := 46) (by rfl) (rv := [.tmp 6, .tmp 7]) (by rfl) (by simp) ?_
        unfold m40
        repeat' (first
            | (simp only [hn, h0, dl_nth, Int.toNat_natCast, hr, Option.map_some, onC_true, ↓fa_app5, ↓fa_app2, ↓wA, ↓wC, wB, frzBE, frzBS, Nat.reduceEqDiff, Nat.reduceAdd, Nat.reduceSub, reduceIte, reduceCtorEq, Nat.reduceBEq, Nat.reduceLT, decide_true])
            | (refine call_det (hF) rfl rfl ?_)
            | (refine callP_det (hF) rfl rfl ?_)
            | (refine call_det (hG) rfl rfl ?_)
            | (refine callP_det (hG) rfl rfl ?_)
            | (refine call_det (hd) rfl rfl ?_)
            | (refine callP_det (hd) rfl rfl ?_)
            | (refine onI_bare (by simp only [InR]; omega) ?_)
            | (refine execG_split (fun h => ?_) (fun h => ?_) <;> simp only [h])
            | (refine execC_split (fun h => ?_) (fun h => ?_) <;> (try simp only [h]))
            | (refine onPick_split (fun h => ?_) (fun h => ?_) <;> (try simp only [h])))
        all_goals simp_all [dlOK, daysBad, within]
theorem specDaysLeft_fn (xs : List App) (id day : Int) (hlen : xs.length ≤ 1048576) (hx : ∀ x ∈ xs, x.ok0) : Fn prog 41 [.sl false 6 (appsD xs), .int .i64 id, .int .i64 day] (fun rs => rs = daysR xs id day) := by
  have hF := l24Find_fn xs id hlen
  have hG := l24Good_fn xs hlen hx
  rcases find_cases xs id with ⟨hn, hn'⟩ | ⟨i, x, hi, hr, _⟩
  · rw [daysR_neg hn']
    refine Fn_of' (fn := f41) (by exact func41) c41 r41 (n := 50) (by rfl) (rv := [.tmp 6, .tmp 7]) (by rfl) (by simp) ?_
    unfold m41
    repeat' (first
        | (simp only [hn, ↓wA, ↓wC, wB, frzBE, frzBS, Nat.reduceEqDiff, Nat.reduceAdd, Nat.reduceSub, reduceIte, reduceCtorEq, Nat.reduceBEq, Nat.reduceLT, decide_true])
        | (refine call_det (hF) rfl rfl ?_)
        | (refine callP_det (hF) rfl rfl ?_)
        | (refine call_det (hG) rfl rfl ?_)
        | (refine callP_det (hG) rfl rfl ?_)
        | (refine execG_split (fun h => ?_) (fun h => ?_) <;> simp only [h])
        | (refine execC_split (fun h => ?_) (fun h => ?_) <;> (try simp only [h]))
        | (refine onPick_split (fun h => ?_) (fun h => ?_) <;> (try simp only [h])))
    all_goals rfl
  · rw [daysR_at hi hr]
    rw [hi] at hF
    have h0 : (0 : Int) ≤ (i : Int) := by omega
    have hn : decide ((i : Int) < 0) = false := decide_eq_false (by omega)
    have hd := l2Day_fn day
    cases hg : goodA xs with
    | false =>
      rw [hg] at hG
      refine Fn_of' (fn := f41) (by exact func41) c41 r41 (n := 50) (by rfl) (rv := [.tmp 6, .tmp 7]) (by rfl) (by simp) ?_
      unfold m41
      repeat' (first
          | (simp only [hn, ↓wA, ↓wC, wB, frzBE, frzBS, Nat.reduceEqDiff, Nat.reduceAdd, Nat.reduceSub, reduceIte, reduceCtorEq, Nat.reduceBEq, Nat.reduceLT, decide_true])
          | (refine call_det (hF) rfl rfl ?_)
          | (refine callP_det (hF) rfl rfl ?_)
          | (refine call_det (hG) rfl rfl ?_)
          | (refine callP_det (hG) rfl rfl ?_)
          | (refine execG_split (fun h => ?_) (fun h => ?_) <;> simp only [h])
          | (refine execC_split (fun h => ?_) (fun h => ?_) <;> (try simp only [h]))
          | (refine onPick_split (fun h => ?_) (fun h => ?_) <;> (try simp only [h])))
      all_goals simp [dlOK, hg, daysBad]
    | true =>
      rw [hg] at hG
      have hx1 := okA_parts ((goodA_ok hg).2.2 x (List.mem_of_getElem? hr))
      have hx3 := hx1.2.2.1
      cases hc : within day 0 20000 with
      | false =>
        rw [hc] at hd
        refine Fn_of' (fn := f41) (by exact func41) c41 r41 (n := 50) (by rfl) (rv := [.tmp 6, .tmp 7]) (by rfl) (by simp) ?_
        unfold m41
        repeat' (first
            | (simp only [hn, h0, dl_nth, Int.toNat_natCast, hr, Option.map_some, onC_true, ↓fa_app5, ↓fa_app2, ↓wA, ↓wC, wB, frzBE, frzBS, Nat.reduceEqDiff, Nat.reduceAdd, Nat.reduceSub, reduceIte, reduceCtorEq, Nat.reduceBEq, Nat.reduceLT, decide_true])
            | (refine call_det (hF) rfl rfl ?_)
            | (refine callP_det (hF) rfl rfl ?_)
            | (refine call_det (hG) rfl rfl ?_)
            | (refine callP_det (hG) rfl rfl ?_)
            | (refine call_det (hd) rfl rfl ?_)
            | (refine callP_det (hd) rfl rfl ?_)
            | (refine execG_split (fun h => ?_) (fun h => ?_) <;> simp only [h])
            | (refine execC_split (fun h => ?_) (fun h => ?_) <;> (try simp only [h]))
            | (refine onPick_split (fun h => ?_) (fun h => ?_) <;> (try simp only [h])))
        all_goals simp_all [dlOK, daysBad]
      | true =>
        rw [hc] at hd
        have hc1 := within_iff.1 hc
        have hmx : (if 60 - day + x.d < 0 then (0 : Int) else 60 - day + x.d) = max (60 - (day - x.d)) 0 := by
          rw [show 60 - (day - x.d) = 60 - day + x.d by omega]
          split <;> omega
        have hM := l1Most_fn 0 (60 - day + x.d)
        rw [hmx] at hM
        refine Fn_of' (fn := f41) (by exact func41) c41 r41 (n := 50) (by rfl) (rv := [.tmp 6, .tmp 7]) (by rfl) (by simp) ?_
        unfold m41
        repeat' (first
            | (simp only [hn, h0, dl_nth, Int.toNat_natCast, hr, Option.map_some, onC_true, ↓fa_app5, ↓fa_app2, ↓wA, ↓wC, wB, frzBE, frzBS, Nat.reduceEqDiff, Nat.reduceAdd, Nat.reduceSub, reduceIte, reduceCtorEq, Nat.reduceBEq, Nat.reduceLT, decide_true])
            | (refine call_det (hF) rfl rfl ?_)
            | (refine callP_det (hF) rfl rfl ?_)
            | (refine call_det (hG) rfl rfl ?_)
            | (refine callP_det (hG) rfl rfl ?_)
            | (refine call_det (hd) rfl rfl ?_)
            | (refine callP_det (hd) rfl rfl ?_)
            | (refine call_det (hM) rfl rfl ?_)
            | (refine callP_det (hM) rfl rfl ?_)
            | (refine onI_bare (by simp only [InR]; omega) ?_)
            | (refine execG_split (fun h => ?_) (fun h => ?_) <;> simp only [h])
            | (refine execC_split (fun h => ?_) (fun h => ?_) <;> (try simp only [h]))
            | (refine onPick_split (fun h => ?_) (fun h => ?_) <;> (try simp only [h])))
        all_goals simp_all [dlOK, daysBad, within]
        all_goals (intros; omega)
end Go.Pe.Try

set_option maxRecDepth 100000
set_option maxHeartbeats 4000000
set_option linter.all false
namespace Go.Pe.Try
open Go.Proofs.Try
theorem countP_up {α : Type} {p : α → Bool} {xs : List α} {i : Nat} {r : α} (hr : xs[i]? = some r) : (xs.take (i + 1)).countP p = (xs.take i).countP p + (if p r = true then 1 else 0) := by
  have hi := lt_of_get hr
  rw [List.take_succ_eq_append_getElem hi, List.countP_append]
  have : xs[i] = r := by rw [List.getElem?_eq_getElem hi] at hr; injection hr
  rw [this]
  simp [List.countP_cons]
theorem countP_le' {α : Type} {p : α → Bool} {xs : List α} {i : Nat} : (xs.take i).countP p ≤ i := Nat.le_trans List.countP_le_length (by simp; omega)
def asks (p : Int) (x : App) : Bool := x.a.contains p
def bp (xs : List App) : Nat → Int × Int
  | 0 => (0, 0)
  | k + 1 => if (bp xs k).2 < (xs.countP (asks ((k : Int) + 1)) : Int) then ((k : Int) + 1, (xs.countP (asks ((k : Int) + 1)) : Int)) else bp xs k
def busyBad : List D := [.int .i64 0, .int .i64 0, .bool false]
def busyR (xs : List App) : List D := if goodA xs = true then [.int .i64 (bp xs 50).1, .int .i64 (bp xs 50).2, .bool (decide (0 < (bp xs 50).2))] else busyBad
theorem specBusy_fn (xs : List App) (hlen : xs.length ≤ 1048576) (hx : ∀ x ∈ xs, x.ok0) : Fn prog 44 [.sl false 6 (appsD xs)] (fun rs => rs = busyR xs) := by
  have hG := l24Good_fn xs hlen hx
  cases hg : goodA xs with
  | false =>
    rw [hg] at hG
    refine Fn_of' (fn := f44) (by exact func44) c44 r44 (n := 41) (by rfl) (rv := [.tmp 2, .tmp 3, .tmp 4]) (by rfl) (by simp) ?_
    unfold m44
    repeat' (first
        | (simp only [↓wA, ↓wC, wB, frzBE, frzBS, Nat.reduceEqDiff, Nat.reduceAdd, Nat.reduceSub, reduceIte, reduceCtorEq, Nat.reduceBEq, Nat.reduceLT, decide_true])
        | (refine call_det (hG) rfl rfl ?_)
        | (refine callP_det (hG) rfl rfl ?_)
        | (refine execG_split (fun h => ?_) (fun h => ?_) <;> simp only [h])
        | (refine execC_split (fun h => ?_) (fun h => ?_) <;> (try simp only [h]))
        | (refine onPick_split (fun h => ?_) (fun h => ?_) <;> (try simp only [h])))
    all_goals simp [busyR, hg, busyBad]
  | true =>
    rw [hg] at hG
    refine Fn_of' (fn := f44) (by exact func44) c44 r44 (n := 41) (by rfl) (rv := [.tmp 2, .tmp 3, .tmp 4]) (by rfl) (by simp) ?_
    unfold m44
    repeat' (first
        | (simp only [↓wA, ↓wC, wB, frzBE, frzBS, Nat.reduceEqDiff, Nat.reduceAdd, Nat.reduceSub, reduceIte, reduceCtorEq, Nat.reduceBEq, Nat.reduceLT, decide_true])
        | (refine call_det (hG) rfl rfl ?_)
        | (refine callP_det (hG) rfl rfl ?_)
        | (refine execG_split (fun h => ?_) (fun h => ?_) <;> simp only [h])
        | (refine execC_split (fun h => ?_) (fun h => ?_) <;> (try simp only [h]))
        | (refine onPick_split (fun h => ?_) (fun h => ?_) <;> (try simp only [h])))
    refine exec_range 50 (fun k : Nat => ⟨[(0, .d (.sl false 6 (appsD xs))), (5, .d (.int .i64 (bp xs k).1)), (6, .d (.int .i64 (bp xs k).2)), (7, .d (.int .i64 ((k : Int) + 1)))], []⟩) (fun _ => True) (weak_of _ rfl ⟨⟨rfl, rfl⟩, ⟨rfl, rfl⟩, ⟨rfl, rfl⟩, ⟨rfl, rfl⟩, trivial⟩) trivial ?_ ?_
    · intro k hk _ _ _
      have hd : decide ((k : Int) + 1 ≤ 50) = true := decide_eq_true (by omega)
      repeat' (first
          | (simp only [hd, ↓wA, ↓wC, wB, frzBE, frzBS, Nat.reduceEqDiff, Nat.reduceAdd, Nat.reduceSub, reduceIte, reduceCtorEq, Nat.reduceBEq, Nat.reduceLT, decide_true])
          | (refine execG_split (fun h => ?_) (fun h => ?_) <;> simp only [h])
          | (refine execC_split (fun h => ?_) (fun h => ?_) <;> (try simp only [h]))
          | (refine onPick_split (fun h => ?_) (fun h => ?_) <;> (try simp only [h])))
      refine exec_range xs.length (fun i : Nat => ⟨[(0, .d (.sl false 6 (appsD xs))), (5, .d (.int .i64 (bp xs k).1)), (6, .d (.int .i64 (bp xs k).2)), (7, .d (.int .i64 ((k : Int) + 1))), (8, .d (.int .i64 ((xs.take i).countP (asks ((k : Int) + 1)) : Nat))), (9, .d (.int .i64 i))], []⟩) (fun _ => True) (weak_of _ rfl ⟨⟨rfl, rfl⟩, ⟨rfl, rfl⟩, ⟨rfl, rfl⟩, ⟨rfl, rfl⟩, ⟨rfl, rfl⟩, ⟨rfl, rfl⟩, trivial⟩) trivial ?_ ?_
      · intro i hlt _ hdi h0
        obtain ⟨r, hr⟩ := get_lt hlt
        have hH := l1Has_fn r.a ((k : Int) + 1) (hx r (List.mem_of_getElem? hr)).1
        have hcu := countP_up (p := asks ((k : Int) + 1)) hr
        have hcl := countP_le' (p := asks ((k : Int) + 1)) (xs := xs) (i := i)
        have ha : asks ((k : Int) + 1) r = r.a.contains ((k : Int) + 1) := rfl
        cases hc : r.a.contains ((k : Int) + 1) with
        | false =>
          rw [hc] at hH
          rw [ha, hc] at hcu
          simp only [reduceIte, Nat.add_zero, Bool.false_eq_true] at hcu
          repeat' (first
              | (simp only [dl_len, dl_nth, hdi, h0, Int.toNat_natCast, hr, Option.map_some, onC_true, ↓fa_app3, ints_noOwn, ↓wA, ↓wC, wB, frzBE, frzBS, Nat.reduceEqDiff, Nat.reduceAdd, Nat.reduceSub, reduceIte, reduceCtorEq, Nat.reduceBEq, Nat.reduceLT, decide_true])
              | (refine call_det (hH) rfl rfl ?_)
              | (refine callP_det (hH) rfl rfl ?_)
              | (refine onI_bare (by simp only [InR]; omega) ?_)
              | (refine execG_split (fun h => ?_) (fun h => ?_) <;> simp only [h])
              | (refine execC_split (fun h => ?_) (fun h => ?_) <;> (try simp only [h]))
              | (refine onPick_split (fun h => ?_) (fun h => ?_) <;> (try simp only [h])))
          refine ⟨i + 1, weak_of _ rfl ⟨⟨rfl, rfl⟩, ⟨rfl, rfl⟩, ⟨rfl, rfl⟩, ⟨rfl, rfl⟩, ⟨?_, rfl⟩, ⟨rfl, rfl⟩, trivial⟩, by omega, by omega⟩
          rw [hcu]; rfl
        | true =>
          rw [hc] at hH
          rw [ha, hc] at hcu
          simp only [reduceIte, Nat.add_zero, Bool.false_eq_true] at hcu
          repeat' (first
              | (simp only [dl_len, dl_nth, hdi, h0, Int.toNat_natCast, hr, Option.map_some, onC_true, ↓fa_app3, ints_noOwn, ↓wA, ↓wC, wB, frzBE, frzBS, Nat.reduceEqDiff, Nat.reduceAdd, Nat.reduceSub, reduceIte, reduceCtorEq, Nat.reduceBEq, Nat.reduceLT, decide_true])
              | (refine call_det (hH) rfl rfl ?_)
              | (refine callP_det (hH) rfl rfl ?_)
              | (refine onI_bare (by simp only [InR]; omega) ?_)
              | (refine execG_split (fun h => ?_) (fun h => ?_) <;> simp only [h])
              | (refine execC_split (fun h => ?_) (fun h => ?_) <;> (try simp only [h]))
              | (refine onPick_split (fun h => ?_) (fun h => ?_) <;> (try simp only [h])))
          refine ⟨i + 1, weak_of _ rfl ⟨⟨rfl, rfl⟩, ⟨rfl, rfl⟩, ⟨rfl, rfl⟩, ⟨rfl, rfl⟩, ⟨?_, rfl⟩, ⟨rfl, rfl⟩, trivial⟩, by omega, by omega⟩
          rw [hcu]; rfl
      · intro _ hdi
        have hb : bp xs (k + 1) = if (bp xs k).2 < (xs.countP (asks ((k : Int) + 1)) : Int) then ((k : Int) + 1, (xs.countP (asks ((k : Int) + 1)) : Int)) else bp xs k := rfl
        have ht : (xs.take xs.length).countP (asks ((k : Int) + 1)) = xs.countP (asks ((k : Int) + 1)) := by rw [List.take_length]
        rw [ht]
        by_cases hq : (bp xs k).2 < (xs.countP (asks ((k : Int) + 1)) : Int)
        · rw [if_pos hq] at hb
          have hqd := decide_eq_true hq
          repeat' (first
              | (simp only [dl_len, hdi, hqd, ↓wA, ↓wC, wB, frzBE, frzBS, Nat.reduceEqDiff, Nat.reduceAdd, Nat.reduceSub, reduceIte, reduceCtorEq, Nat.reduceBEq, Nat.reduceLT, decide_true])
              | (refine onI_bare (by simp only [InR]; omega) ?_)
              | (refine execG_split (fun h => ?_) (fun h => ?_) <;> simp only [h])
              | (refine execC_split (fun h => ?_) (fun h => ?_) <;> (try simp only [h]))
              | (refine onPick_split (fun h => ?_) (fun h => ?_) <;> (try simp only [h])))
          refine ⟨k + 1, weak_of _ rfl ⟨⟨rfl, rfl⟩, ⟨?_, rfl⟩, ⟨?_, rfl⟩, ⟨rfl, rfl⟩, trivial⟩, by omega, by omega⟩
          all_goals (rw [hb]; rfl)
        · rw [if_neg hq] at hb
          have hqd := decide_eq_false hq
          repeat' (first
              | (simp only [dl_len, hdi, hqd, ↓wA, ↓wC, wB, frzBE, frzBS, Nat.reduceEqDiff, Nat.reduceAdd, Nat.reduceSub, reduceIte, reduceCtorEq, Nat.reduceBEq, Nat.reduceLT, decide_true])
              | (refine onI_bare (by simp only [InR]; omega) ?_)
              | (refine execG_split (fun h => ?_) (fun h => ?_) <;> simp only [h])
              | (refine execC_split (fun h => ?_) (fun h => ?_) <;> (try simp only [h]))
              | (refine onPick_split (fun h => ?_) (fun h => ?_) <;> (try simp only [h])))
          refine ⟨k + 1, weak_of _ rfl ⟨⟨rfl, rfl⟩, ⟨?_, rfl⟩, ⟨?_, rfl⟩, ⟨rfl, rfl⟩, trivial⟩, by omega, by omega⟩
          all_goals (rw [hb]; rfl)
    · intro _ _
      have hd : decide (((50 : Nat) : Int) + 1 ≤ 50) = false := by decide
      repeat' (first
          | (simp only [hd, ↓wA, ↓wC, wB, frzBE, frzBS, Nat.reduceEqDiff, Nat.reduceAdd, Nat.reduceSub, reduceIte, reduceCtorEq, Nat.reduceBEq, Nat.reduceLT, decide_true])
          | (refine execG_split (fun h => ?_) (fun h => ?_) <;> simp only [h])
          | (refine execC_split (fun h => ?_) (fun h => ?_) <;> (try simp only [h]))
          | (refine onPick_split (fun h => ?_) (fun h => ?_) <;> (try simp only [h])))
      all_goals simp [busyR, hg]
theorem busy_fn (xs : List App) (hlen : xs.length ≤ 1048576) (hx : ∀ x ∈ xs, x.ok0) : Fn prog 43 [.sl false 6 (appsD xs)] (fun rs => rs = busyR xs) := by
  have hG := areAppeals_fn xs hlen hx
  cases hg : goodA xs with
  | false =>
    rw [hg] at hG
    refine Fn_of' (fn := f43) (by exact func43) c43 r43 (n := 40) (by rfl) (rv := [.tmp 2, .tmp 3, .tmp 4]) (by rfl) (by simp) ?_
    unfold m43
    repeat' (first
        | (simp only [↓wA, ↓wC, wB, frzBE, frzBS, Nat.reduceEqDiff, Nat.reduceAdd, Nat.reduceSub, reduceIte, reduceCtorEq, Nat.reduceBEq, Nat.reduceLT, decide_true])
        | (refine call_det (hG) rfl rfl ?_)
        | (refine callP_det (hG) rfl rfl ?_)
        | (refine execG_split (fun h => ?_) (fun h => ?_) <;> simp only [h])
        | (refine execC_split (fun h => ?_) (fun h => ?_) <;> (try simp only [h]))
        | (refine onPick_split (fun h => ?_) (fun h => ?_) <;> (try simp only [h])))
    all_goals simp [busyR, hg, busyBad]
  | true =>
    rw [hg] at hG
    refine Fn_of' (fn := f43) (by exact func43) c43 r43 (n := 40) (by rfl) (rv := [.tmp 2, .tmp 3, .tmp 4]) (by rfl) (by simp) ?_
    unfold m43
    repeat' (first
        | (simp only [↓wA, ↓wC, wB, frzBE, frzBS, Nat.reduceEqDiff, Nat.reduceAdd, Nat.reduceSub, reduceIte, reduceCtorEq, Nat.reduceBEq, Nat.reduceLT, decide_true])
        | (refine call_det (hG) rfl rfl ?_)
        | (refine callP_det (hG) rfl rfl ?_)
        | (refine execG_split (fun h => ?_) (fun h => ?_) <;> simp only [h])
        | (refine execC_split (fun h => ?_) (fun h => ?_) <;> (try simp only [h]))
        | (refine onPick_split (fun h => ?_) (fun h => ?_) <;> (try simp only [h])))
    refine exec_range 50 (fun k : Nat => ⟨[(0, .d (.sl false 6 (appsD xs))), (5, .d (.int .i64 (bp xs k).1)), (6, .d (.int .i64 (bp xs k).2)), (7, .d (.int .i64 ((k : Int) + 1)))], []⟩) (fun _ => True) (weak_of _ rfl ⟨⟨rfl, rfl⟩, ⟨rfl, rfl⟩, ⟨rfl, rfl⟩, ⟨rfl, rfl⟩, trivial⟩) trivial ?_ ?_
    · intro k hk _ _ _
      have hd : decide ((k : Int) + 1 ≤ 50) = true := decide_eq_true (by omega)
      repeat' (first
          | (simp only [hd, dl_len, ↓wA, ↓wC, wB, frzBE, frzBS, Nat.reduceEqDiff, Nat.reduceAdd, Nat.reduceSub, reduceIte, reduceCtorEq, Nat.reduceBEq, Nat.reduceLT, decide_true])
          | (refine execG_split (fun h => ?_) (fun h => ?_) <;> simp only [h])
          | (refine execC_split (fun h => ?_) (fun h => ?_) <;> (try simp only [h]))
          | (refine onPick_split (fun h => ?_) (fun h => ?_) <;> (try simp only [h])))
      refine exec_range xs.length (fun i : Nat => ⟨[(0, .d (.sl false 6 (appsD xs))), (5, .d (.int .i64 (bp xs k).1)), (6, .d (.int .i64 (bp xs k).2)), (7, .d (.int .i64 ((k : Int) + 1))), (8, .d (.int .i64 ((xs.take i).countP (asks ((k : Int) + 1)) : Nat))), (18, .d (.sl false 6 (appsD xs))), (19, .d (.int .i64 xs.length)), (20, .d (.int .i64 i))], []⟩) (fun _ => True) (weak_of _ rfl ⟨⟨rfl, rfl⟩, ⟨rfl, rfl⟩, ⟨rfl, rfl⟩, ⟨rfl, rfl⟩, ⟨rfl, rfl⟩, ⟨rfl, rfl⟩, ⟨rfl, rfl⟩, ⟨rfl, rfl⟩, trivial⟩) trivial ?_ ?_
      · intro i hlt _ hdi h0
        obtain ⟨r, hr⟩ := get_lt hlt
        have hH := containsI_fn r.a ((k : Int) + 1) (hx r (List.mem_of_getElem? hr)).1
        have hcu := countP_up (p := asks ((k : Int) + 1)) hr
        have hcl := countP_le' (p := asks ((k : Int) + 1)) (xs := xs) (i := i)
        have ha : asks ((k : Int) + 1) r = r.a.contains ((k : Int) + 1) := rfl
        cases hc : r.a.contains ((k : Int) + 1) with
        | false =>
          rw [hc] at hH
          rw [ha, hc] at hcu
          simp only [reduceIte, Nat.add_zero, Bool.false_eq_true] at hcu
          repeat' (first
              | (simp only [dl_len, dl_nth, hdi, h0, Int.toNat_natCast, hr, Option.map_some, onC_true, ↓rd_app, oa_size, oa_isV, App.noOwn, App.d', ints_noOwn, ↓wA, ↓wC, wB, frzBE, frzBS, Nat.reduceEqDiff, Nat.reduceAdd, Nat.reduceSub, reduceIte, reduceCtorEq, Nat.reduceBEq, Nat.reduceLT, decide_true])
              | (refine call_det (hH) rfl rfl ?_)
              | (refine callP_det (hH) rfl rfl ?_)
              | (refine onI_bare (by simp only [InR]; omega) ?_)
              | (refine execG_split (fun h => ?_) (fun h => ?_) <;> simp only [h])
              | (refine execC_split (fun h => ?_) (fun h => ?_) <;> (try simp only [h]))
              | (refine onPick_split (fun h => ?_) (fun h => ?_) <;> (try simp only [h])))
          refine ⟨i + 1, weak_of _ rfl ⟨⟨rfl, rfl⟩, ⟨rfl, rfl⟩, ⟨rfl, rfl⟩, ⟨rfl, rfl⟩, ⟨?_, rfl⟩, ⟨rfl, rfl⟩, ⟨rfl, rfl⟩, ⟨rfl, rfl⟩, trivial⟩, by omega, by omega⟩
          rw [hcu]; rfl
        | true =>
          rw [hc] at hH
          rw [ha, hc] at hcu
          simp only [reduceIte, Nat.add_zero, Bool.false_eq_true] at hcu
          repeat' (first
              | (simp only [dl_len, dl_nth, hdi, h0, Int.toNat_natCast, hr, Option.map_some, onC_true, ↓rd_app, oa_size, oa_isV, App.noOwn, App.d', ints_noOwn, ↓wA, ↓wC, wB, frzBE, frzBS, Nat.reduceEqDiff, Nat.reduceAdd, Nat.reduceSub, reduceIte, reduceCtorEq, Nat.reduceBEq, Nat.reduceLT, decide_true])
              | (refine call_det (hH) rfl rfl ?_)
              | (refine callP_det (hH) rfl rfl ?_)
              | (refine onI_bare (by simp only [InR]; omega) ?_)
              | (refine execG_split (fun h => ?_) (fun h => ?_) <;> simp only [h])
              | (refine execC_split (fun h => ?_) (fun h => ?_) <;> (try simp only [h]))
              | (refine onPick_split (fun h => ?_) (fun h => ?_) <;> (try simp only [h])))
          refine ⟨i + 1, weak_of _ rfl ⟨⟨rfl, rfl⟩, ⟨rfl, rfl⟩, ⟨rfl, rfl⟩, ⟨rfl, rfl⟩, ⟨?_, rfl⟩, ⟨rfl, rfl⟩, ⟨rfl, rfl⟩, ⟨rfl, rfl⟩, trivial⟩, by omega, by omega⟩
          rw [hcu]; rfl
      · intro _ hdi
        have hb : bp xs (k + 1) = if (bp xs k).2 < (xs.countP (asks ((k : Int) + 1)) : Int) then ((k : Int) + 1, (xs.countP (asks ((k : Int) + 1)) : Int)) else bp xs k := rfl
        have ht : (xs.take xs.length).countP (asks ((k : Int) + 1)) = xs.countP (asks ((k : Int) + 1)) := by rw [List.take_length]
        rw [ht]
        by_cases hq : (bp xs k).2 < (xs.countP (asks ((k : Int) + 1)) : Int)
        · rw [if_pos hq] at hb
          have hqd := decide_eq_true hq
          repeat' (first
              | (simp only [dl_len, hdi, hqd, ↓wA, ↓wC, wB, frzBE, frzBS, Nat.reduceEqDiff, Nat.reduceAdd, Nat.reduceSub, reduceIte, reduceCtorEq, Nat.reduceBEq, Nat.reduceLT, decide_true])
              | (refine onI_bare (by simp only [InR]; omega) ?_)
              | (refine execG_split (fun h => ?_) (fun h => ?_) <;> simp only [h])
              | (refine execC_split (fun h => ?_) (fun h => ?_) <;> (try simp only [h]))
              | (refine onPick_split (fun h => ?_) (fun h => ?_) <;> (try simp only [h])))
          refine ⟨k + 1, weak_of _ rfl ⟨⟨rfl, rfl⟩, ⟨?_, rfl⟩, ⟨?_, rfl⟩, ⟨rfl, rfl⟩, trivial⟩, by omega, by omega⟩
          all_goals (rw [hb]; rfl)
        · rw [if_neg hq] at hb
          have hqd := decide_eq_false hq
          repeat' (first
              | (simp only [dl_len, hdi, hqd, ↓wA, ↓wC, wB, frzBE, frzBS, Nat.reduceEqDiff, Nat.reduceAdd, Nat.reduceSub, reduceIte, reduceCtorEq, Nat.reduceBEq, Nat.reduceLT, decide_true])
              | (refine onI_bare (by simp only [InR]; omega) ?_)
              | (refine execG_split (fun h => ?_) (fun h => ?_) <;> simp only [h])
              | (refine execC_split (fun h => ?_) (fun h => ?_) <;> (try simp only [h]))
              | (refine onPick_split (fun h => ?_) (fun h => ?_) <;> (try simp only [h])))
          refine ⟨k + 1, weak_of _ rfl ⟨⟨rfl, rfl⟩, ⟨?_, rfl⟩, ⟨?_, rfl⟩, ⟨rfl, rfl⟩, trivial⟩, by omega, by omega⟩
          all_goals (rw [hb]; rfl)
    · intro _ _
      have hd : decide (((50 : Nat) : Int) + 1 ≤ 50) = false := by decide
      repeat' (first
          | (simp only [hd, ↓wA, ↓wC, wB, frzBE, frzBS, Nat.reduceEqDiff, Nat.reduceAdd, Nat.reduceSub, reduceIte, reduceCtorEq, Nat.reduceBEq, Nat.reduceLT, decide_true])
          | (refine execG_split (fun h => ?_) (fun h => ?_) <;> simp only [h])
          | (refine execC_split (fun h => ?_) (fun h => ?_) <;> (try simp only [h]))
          | (refine onPick_split (fun h => ?_) (fun h => ?_) <;> (try simp only [h])))
      all_goals simp [busyR, hg]
theorem busyR_form (xs : List App) : ∃ a b c, busyR xs = [.int .i64 a, .int .i64 b, .bool c] := by
  unfold busyR busyBad
  split
  · exact ⟨_, _, _, rfl⟩
  · exact ⟨_, _, _, rfl⟩
end Go.Pe.Try

set_option maxRecDepth 100000
set_option maxHeartbeats 4000000
set_option linter.all false
namespace Go.Pe.Try
open Go.Proofs.Try
def isWon (x : App) : Bool := decide (x.s = 2)
def isDone (x : App) : Bool := decide (x.s = 2) || decide (x.s = 3)
theorem isWon_le (xs : List App) : xs.countP isWon ≤ xs.countP isDone := List.countP_mono_left fun x _ h => by simp [isWon, isDone] at h ⊢; exact .inl h
def wonBad : List D := [.int .i64 0, .int .i64 0, .bool false]
def wonR (xs : List App) : List D := if (goodA xs && !decide (((xs.countP isDone : Nat) : Int) = 0)) = true then lowest (xs.countP isWon) (xs.countP isDone) ++ [.bool true] else wonBad
theorem specWon_fn (xs : List App) (hlen : xs.length ≤ 1048576) (hx : ∀ x ∈ xs, x.ok0) : Fn prog 46 [.sl false 6 (appsD xs)] (fun rs => rs = wonR xs) := by
  have hG := l24Good_fn xs hlen hx
  cases hg : goodA xs with
  | false =>
    rw [hg] at hG
    refine Fn_of' (fn := f46) (by exact func46) c46 r46 (n := 44) (by rfl) (rv := [.tmp 2, .tmp 3, .tmp 4]) (by rfl) (by simp) ?_
    unfold m46
    repeat' (first
        | (simp only [↓wA, ↓wC, wB, frzBE, frzBS, Nat.reduceEqDiff, Nat.reduceAdd, Nat.reduceSub, reduceIte, reduceCtorEq, Nat.reduceBEq, Nat.reduceLT, decide_true])
        | (refine call_det (hG) rfl rfl ?_)
        | (refine callP_det (hG) rfl rfl ?_)
        | (refine execG_split (fun h => ?_) (fun h => ?_) <;> simp only [h])
        | (refine execC_split (fun h => ?_) (fun h => ?_) <;> (try simp only [h]))
        | (refine onPick_split (fun h => ?_) (fun h => ?_) <;> (try simp only [h])))
    all_goals simp [wonR, hg, wonBad]
  | true =>
    rw [hg] at hG
    have h10 := (goodA_ok hg).1
    refine Fn_of' (fn := f46) (by exact func46) c46 r46 (n := 44) (by rfl) (rv := [.tmp 2, .tmp 3, .tmp 4]) (by rfl) (by simp) ?_
    unfold m46
    repeat' (first
        | (simp only [↓wA, ↓wC, wB, frzBE, frzBS, Nat.reduceEqDiff, Nat.reduceAdd, Nat.reduceSub, reduceIte, reduceCtorEq, Nat.reduceBEq, Nat.reduceLT, decide_true])
        | (refine call_det (hG) rfl rfl ?_)
        | (refine callP_det (hG) rfl rfl ?_)
        | (refine execG_split (fun h => ?_) (fun h => ?_) <;> simp only [h])
        | (refine execC_split (fun h => ?_) (fun h => ?_) <;> (try simp only [h]))
        | (refine onPick_split (fun h => ?_) (fun h => ?_) <;> (try simp only [h])))
    refine exec_range xs.length (fun i : Nat => ⟨[(0, .d (.sl false 6 (appsD xs))), (5, .d (.int .i64 ((xs.take i).countP isWon : Nat))), (6, .d (.int .i64 ((xs.take i).countP isDone : Nat))), (7, .d (.int .i64 i))], []⟩) (fun _ => True) (weak_of _ rfl ⟨⟨rfl, rfl⟩, ⟨rfl, rfl⟩, ⟨rfl, rfl⟩, ⟨rfl, rfl⟩, trivial⟩) trivial ?_ ?_
    · intro i hlt _ hd h0
      obtain ⟨r, hr⟩ := get_lt hlt
      have c1 := countP_up (p := isWon) hr
      have c2 := countP_up (p := isDone) hr
      have l1 := countP_le' (p := isWon) (xs := xs) (i := i)
      have l2 := countP_le' (p := isDone) (xs := xs) (i := i)
      repeat' (first
          | (simp only [dl_len, dl_nth, hd, h0, Int.toNat_natCast, hr, Option.map_some, onC_true, ↓fa_app5, ↓wA, ↓wC, wB, frzBE, frzBS, Nat.reduceEqDiff, Nat.reduceAdd, Nat.reduceSub, reduceIte, reduceCtorEq, Nat.reduceBEq, Nat.reduceLT, decide_true])
          | (refine onI_bare (by simp only [InR]; omega) ?_)
          | (refine execG_split (fun h => ?_) (fun h => ?_) <;> simp only [h])
          | (refine execC_split (fun h => ?_) (fun h => ?_) <;> (try simp only [h]))
          | (refine onPick_split (fun h => ?_) (fun h => ?_) <;> (try simp only [h])))
      all_goals
        refine ⟨i + 1, weak_of _ rfl ⟨⟨rfl, rfl⟩, ⟨?_, rfl⟩, ⟨?_, rfl⟩, ⟨rfl, rfl⟩, trivial⟩, by omega, by omega⟩
        · simp_all [isWon, isDone, look]
        · simp_all [isWon, isDone, look]
    · intro _ hd
      have e1 : (xs.take xs.length).countP isWon = xs.countP isWon := by rw [List.take_length]
      have e2 : (xs.take xs.length).countP isDone = xs.countP isDone := by rw [List.take_length]
      have b1 : xs.countP isWon ≤ 10 := Nat.le_trans List.countP_le_length h10
      have b2 : xs.countP isDone ≤ 10 := Nat.le_trans List.countP_le_length h10
      rw [e1, e2]
      by_cases hz : ((xs.countP isDone : Nat) : Int) = 0
      · have hq := decide_eq_true hz
        repeat' (first
            | (simp only [dl_len, hd, hq, ↓wA, ↓wC, wB, frzBE, frzBS, Nat.reduceEqDiff, Nat.reduceAdd, Nat.reduceSub, reduceIte, reduceCtorEq, Nat.reduceBEq, Nat.reduceLT, decide_true])
            | (refine execG_split (fun h => ?_) (fun h => ?_) <;> simp only [h])
            | (refine execC_split (fun h => ?_) (fun h => ?_) <;> (try simp only [h]))
            | (refine onPick_split (fun h => ?_) (fun h => ?_) <;> (try simp only [h])))
        all_goals (rw [wonR, hg, hq]; rfl)
      · have hq := decide_eq_false hz
        have hR := l2Reduce_fn (xs.countP isWon) (xs.countP isDone) (by omega) (by omega) (by omega)
        simp only [lowest] at hR
        repeat' (first
            | (simp only [dl_len, hd, hq, ↓wA, ↓wC, wB, frzBE, frzBS, Nat.reduceEqDiff, Nat.reduceAdd, Nat.reduceSub, reduceIte, reduceCtorEq, Nat.reduceBEq, Nat.reduceLT, decide_true])
            | (refine call_det (hR) rfl rfl ?_)
            | (refine callP_det (hR) rfl rfl ?_)
            | (refine execG_split (fun h => ?_) (fun h => ?_) <;> simp only [h])
            | (refine execC_split (fun h => ?_) (fun h => ?_) <;> (try simp only [h]))
            | (refine onPick_split (fun h => ?_) (fun h => ?_) <;> (try simp only [h])))
        all_goals (rw [wonR, hg, hq]; rfl)
theorem won_fn (xs : List App) (hlen : xs.length ≤ 1048576) (hx : ∀ x ∈ xs, x.ok0) : Fn prog 45 [.sl false 6 (appsD xs)] (fun rs => rs = wonR xs) := by
  have hG := areAppeals_fn xs hlen hx
  refine Fn_of' (fn := f45) (by exact func45) c45 r45 (n := 48) (by rfl) (rv := [.tmp 2, .tmp 3, .tmp 4]) (by rfl) (by simp) ?_
  unfold m45
  simp only [dl_len, ↓wA, ↓wC, wB, frzBE, frzBS, Nat.reduceEqDiff, Nat.reduceAdd, Nat.reduceSub, reduceIte, reduceCtorEq, Nat.reduceBEq, Nat.reduceLT, decide_true]
  refine exec_range xs.length (fun i : Nat => ⟨[(0, .d (.sl false 6 (appsD xs))), (5, .d (.int .i64 ((xs.take i).countP isWon : Nat))), (6, .d (.int .i64 ((xs.take i).countP isDone : Nat))), (11, .d (.sl false 6 (appsD xs))), (12, .d (.int .i64 xs.length)), (13, .d (.int .i64 i))], []⟩) (fun _ => True) (weak_of _ rfl ⟨⟨rfl, rfl⟩, ⟨rfl, rfl⟩, ⟨rfl, rfl⟩, ⟨rfl, rfl⟩, ⟨rfl, rfl⟩, ⟨rfl, rfl⟩, trivial⟩) trivial ?_ ?_
  · intro i hlt _ hd h0
    obtain ⟨r, hr⟩ := get_lt hlt
    have c1 := countP_up (p := isWon) hr
    have c2 := countP_up (p := isDone) hr
    have l1 := countP_le' (p := isWon) (xs := xs) (i := i)
    have l2 := countP_le' (p := isDone) (xs := xs) (i := i)
    repeat' (first
        | (simp only [dl_len, dl_nth, hd, h0, Int.toNat_natCast, hr, Option.map_some, onC_true, ↓rd_app, oa_size, oa_isV, App.noOwn, App.d', ints_noOwn, ↓wA, ↓wC, wB, frzBE, frzBS, Nat.reduceEqDiff, Nat.reduceAdd, Nat.reduceSub, reduceIte, reduceCtorEq, Nat.reduceBEq, Nat.reduceLT, decide_true])
        | (refine onI_bare (by simp only [InR]; omega) ?_)
        | (refine execG_split (fun h => ?_) (fun h => ?_) <;> simp only [h])
        | (refine execC_split (fun h => ?_) (fun h => ?_) <;> (try simp only [h]))
        | (refine onPick_split (fun h => ?_) (fun h => ?_) <;> (try simp only [h])))
    all_goals
      refine ⟨i + 1, weak_of _ rfl ⟨⟨rfl, rfl⟩, ⟨?_, rfl⟩, ⟨?_, rfl⟩, ⟨rfl, rfl⟩, ⟨rfl, rfl⟩, ⟨rfl, rfl⟩, trivial⟩, by omega, by omega⟩
      · simp_all [isWon, isDone, look]
      · simp_all [isWon, isDone, look]
  · intro _ hd
    have e1 : (xs.take xs.length).countP isWon = xs.countP isWon := by rw [List.take_length]
    have e2 : (xs.take xs.length).countP isDone = xs.countP isDone := by rw [List.take_length]
    rw [e1, e2]
    cases hg : goodA xs with
    | false =>
      rw [hg] at hG
      repeat' (first
          | (simp only [hd, ↓wA, ↓wC, wB, frzBE, frzBS, Nat.reduceEqDiff, Nat.reduceAdd, Nat.reduceSub, reduceIte, reduceCtorEq, Nat.reduceBEq, Nat.reduceLT, decide_true])
          | (refine call_det (hG) rfl rfl ?_)
          | (refine callP_det (hG) rfl rfl ?_)
          | (refine execG_split (fun h => ?_) (fun h => ?_) <;> simp only [h])
          | (refine execC_split (fun h => ?_) (fun h => ?_) <;> (try simp only [h]))
          | (refine onPick_split (fun h => ?_) (fun h => ?_) <;> (try simp only [h])))
      all_goals simp [wonR, hg, wonBad]
    | true =>
      rw [hg] at hG
      have h10 := (goodA_ok hg).1
      have b1 : xs.countP isWon ≤ 10 := Nat.le_trans List.countP_le_length h10
      have b2 : xs.countP isDone ≤ 10 := Nat.le_trans List.countP_le_length h10
      by_cases hz : ((xs.countP isDone : Nat) : Int) = 0
      · have hq := decide_eq_true hz
        repeat' (first
            | (simp only [dl_len, hd, hq, ↓wA, ↓wC, wB, frzBE, frzBS, Nat.reduceEqDiff, Nat.reduceAdd, Nat.reduceSub, reduceIte, reduceCtorEq, Nat.reduceBEq, Nat.reduceLT, decide_true])
            | (refine call_det (hG) rfl rfl ?_)
            | (refine callP_det (hG) rfl rfl ?_)
            | (refine execG_split (fun h => ?_) (fun h => ?_) <;> simp only [h])
            | (refine execC_split (fun h => ?_) (fun h => ?_) <;> (try simp only [h]))
            | (refine onPick_split (fun h => ?_) (fun h => ?_) <;> (try simp only [h])))
        all_goals (rw [wonR, hg, hq]; rfl)
      · have hq := decide_eq_false hz
        have hR := reduced_fn (xs.countP isWon) (xs.countP isDone) (by omega) (by omega) (by omega)
        simp only [lowest] at hR
        repeat' (first
            | (simp only [dl_len, hd, hq, ↓wA, ↓wC, wB, frzBE, frzBS, Nat.reduceEqDiff, Nat.reduceAdd, Nat.reduceSub, reduceIte, reduceCtorEq, Nat.reduceBEq, Nat.reduceLT, decide_true])
            | (refine call_det (hG) rfl rfl ?_)
            | (refine callP_det (hG) rfl rfl ?_)
            | (refine call_det (hR) rfl rfl ?_)
            | (refine callP_det (hR) rfl rfl ?_)
            | (refine execG_split (fun h => ?_) (fun h => ?_) <;> simp only [h])
            | (refine execC_split (fun h => ?_) (fun h => ?_) <;> (try simp only [h]))
            | (refine onPick_split (fun h => ?_) (fun h => ?_) <;> (try simp only [h])))
        all_goals (rw [wonR, hg, hq]; rfl)
end Go.Pe.Try

set_option maxRecDepth 100000
set_option maxHeartbeats 4000000
set_option linter.all false
namespace Go.Pe.Try
open Go.Proofs.Try
theorem dget_int {n : Int} : dget [] (iD n) = some (iD n) := rfl
theorem doff_int {n : Int} : doff [] (iD n) = 0 := rfl
theorem size_int {n : Int} : (iD n).size = 1 := rfl
end Go.Pe.Try

set_option maxRecDepth 100000
set_option maxHeartbeats 4000000
set_option linter.all false
namespace Go.Pe.Try
open Go.Proofs.Try
/-- an appeal with parts of one's own. -/
def App.p (x : App) (da dh : D) : D := .st (.cons (.int .i64 x.i) (.cons (.int .i64 x.q) (.cons (.int .i64 x.d) (.cons da (.cons dh (.cons (.int .i64 x.s) .nil))))))
def App.o (x : App) : D := x.p (.sl true 1 (dl iD x.a)) (.sl true 1 (dl iD x.h))
theorem take_snoc {α : Type} {xs : List α} {i : Nat} {r : α} (hr : xs[i]? = some r) : xs.take (i + 1) = xs.take i ++ [r] := by
  have hi := lt_of_get hr
  rw [List.take_succ_eq_append_getElem hi]
  rw [List.getElem?_eq_getElem hi] at hr
  injection hr with hr
  rw [hr]
theorem dset_p0 {x : App} {da dh : D} {k : Int} : dset [0] (x.p da dh) (.int .i64 k) = App.p { x with i := k } da dh := rfl
theorem dset_p1 {x : App} {da dh : D} {k : Int} : dset [1] (x.p da dh) (.int .i64 k) = App.p { x with q := k } da dh := rfl
theorem dset_p2 {x : App} {da dh : D} {k : Int} : dset [2] (x.p da dh) (.int .i64 k) = App.p { x with d := k } da dh := rfl
theorem dset_p5 {x : App} {da dh : D} {k : Int} : dset [5] (x.p da dh) (.int .i64 k) = App.p { x with s := k } da dh := rfl
theorem doff_p0 {x : App} {da dh : D} : doff [0] (x.p da dh) = 0 := rfl
theorem doff_p1 {x : App} {da dh : D} : doff [1] (x.p da dh) = 1 := rfl
theorem doff_p2 {x : App} {da dh : D} : doff [2] (x.p da dh) = 2 := rfl
theorem doff_p3 {x : App} {da dh : D} : doff [3] (x.p da dh) = 3 := rfl
theorem doff_p4 {x : App} {da dh : D} (h : da.size = 1) : doff [4] (x.p da dh) = 4 := by simp [doff, App.p, D.pre, D.nth, D.size, h]
theorem doff_p5 {x : App} {da dh : D} (h : da.size = 1) (h2 : dh.size = 1) : doff [5] (x.p da dh) = 5 := by simp [doff, App.p, D.pre, D.nth, D.size, h, h2]
theorem dget_p0 {x : App} {da dh : D} : dget [0] (x.p da dh) = some (.int .i64 x.i) := rfl
theorem dget_p1 {x : App} {da dh : D} : dget [1] (x.p da dh) = some (.int .i64 x.q) := rfl
theorem dget_p2 {x : App} {da dh : D} : dget [2] (x.p da dh) = some (.int .i64 x.d) := rfl
theorem dget_p3 {x : App} {da dh : D} : dget [3] (x.p da dh) = some da := rfl
theorem dget_p4 {x : App} {da dh : D} : dget [4] (x.p da dh) = some dh := rfl
theorem dget_p5 {x : App} {da dh : D} : dget [5] (x.p da dh) = some (.int .i64 x.s) := rfl
theorem dset_p3 {x : App} {da dh u : D} : dset [3] (x.p da dh) u = x.p u dh := rfl
theorem dset_p4 {x : App} {da dh u : D} : dset [4] (x.p da dh) u = x.p da u := rfl
theorem setN_setN : ∀ (xs : D) (i : Nat) (y z : D), (xs.setN i y).setN i z = xs.setN i z := by
  intro xs
  induction xs with
  | cons a xs ih1 ih2 => intro i y z; cases i with
    | zero => rfl
    | succ i => simp only [D.setN]; rw [ih2]
  | _ => intro i y z; cases i <;> rfl
end Go.Pe.Try

set_option maxRecDepth 100000
set_option maxHeartbeats 4000000
set_option linter.all false
namespace Go.Pe.Try
open Go.Proofs.Try
theorem App.o_unown (x : App) : x.o.unown = x.d' := by simp [App.o, App.p, App.d', D.unown, ints_unown]
theorem App.o_own (x : App) : x.o.allOwn = true := by simp [App.o, App.p, D.allOwn, dl_allOwn iD_allOwn]
theorem dlo_unown : ∀ xs : List App, (dl App.o xs).unown = appsD xs
  | [] => rfl
  | x :: xs => by
    have := dlo_unown xs
    simp only [appsD, dl, List.map_cons, ofL, D.unown, App.o_unown] at this ⊢
    rw [this]
theorem dlo_own (xs : List App) : (dl App.o xs).allOwn = true := dl_allOwn App.o_own xs
theorem cloneI_fn (v : List Int) (hlen : v.length ≤ 1048576) : Fn prog 68 [.sl false 1 (dl iD v)] (fun rs => rs = [.sl true 1 (dl iD v)]) := by
  refine Fn_of' (fn := f68) (by exact func68) c68 r68 (n := 8) (by rfl) (rv := [.tmp 2]) (by rfl) (by simp) ?_
  unfold m68
  simp only [↓wA, ↓wC, wB, frzBE, frzBS, Nat.reduceEqDiff, Nat.reduceAdd, Nat.reduceSub, reduceIte, reduceCtorEq, Nat.reduceBEq, Nat.reduceLT, decide_true]
  refine nilQ_i (fun h => ?_) ?_
  · rw [dl_len] at h
    have e : v = [] := List.length_eq_zero_iff.1 h
    subst e
    simp only [↓wA, ↓wC, wB, frzBE, frzBS, Nat.reduceEqDiff, Nat.reduceAdd, Nat.reduceSub, reduceIte, reduceCtorEq, Nat.reduceBEq, Nat.reduceLT, decide_true]
    refine take_nil 1 ?_
    rfl
  · simp only [dl_len, ↓wA, ↓wC, wB, frzBE, frzBS, Nat.reduceEqDiff, Nat.reduceAdd, Nat.reduceSub, reduceIte, reduceCtorEq, Nat.reduceBEq, Nat.reduceLT, decide_true]
    refine onC_i ⟨by omega, by omega⟩ ?_
    simp only [↓wA, ↓wC, wB, frzBE, frzBS, Nat.reduceEqDiff, Nat.reduceAdd, Nat.reduceSub, reduceIte, reduceCtorEq, Nat.reduceBEq, Nat.reduceLT, decide_true]
theorem cloneA_fn (xs : List App) (hlen : xs.length ≤ 1048576) : Fn prog 132 [.sl false 6 (appsD xs)] (fun rs => rs = [.sl true 6 (appsD xs)]) := by
  refine Fn_of' (fn := f132) (by exact func132) c132 r132 (n := 8) (by rfl) (rv := [.tmp 2]) (by rfl) (by simp) ?_
  unfold m132
  simp only [↓wA, ↓wC, wB, frzBE, frzBS, Nat.reduceEqDiff, Nat.reduceAdd, Nat.reduceSub, reduceIte, reduceCtorEq, Nat.reduceBEq, Nat.reduceLT, decide_true]
  refine nilQ_i (fun h => ?_) ?_
  · rw [dl_len] at h
    have e : xs = [] := List.length_eq_zero_iff.1 h
    subst e
    simp only [↓wA, ↓wC, wB, frzBE, frzBS, Nat.reduceEqDiff, Nat.reduceAdd, Nat.reduceSub, reduceIte, reduceCtorEq, Nat.reduceBEq, Nat.reduceLT, decide_true]
    refine take_nil 6 ?_
    rfl
  · simp only [dl_len, ↓wA, ↓wC, wB, frzBE, frzBS, Nat.reduceEqDiff, Nat.reduceAdd, Nat.reduceSub, reduceIte, reduceCtorEq, Nat.reduceBEq, Nat.reduceLT, decide_true]
    refine onC_i ⟨by omega, by omega⟩ ?_
    simp only [↓wA, ↓wC, wB, frzBE, frzBS, Nat.reduceEqDiff, Nat.reduceAdd, Nat.reduceSub, reduceIte, reduceCtorEq, Nat.reduceBEq, Nat.reduceLT, decide_true]
end Go.Pe.Try

set_option maxRecDepth 100000
set_option maxHeartbeats 4000000
set_option linter.all false
namespace Go.Pe.Try
open Go.Proofs.Try
def om (p : Bool × App) : D := if p.1 then p.2.o else p.2.d'
def mixA (xs : List App) (i : Nat) : List (Bool × App) := (xs.take i).map (fun x => (true, x)) ++ (xs.drop i).map (fun x => (false, x))
theorem mixA_len (xs : List App) (i : Nat) : (mixA xs i).length = xs.length := by simp [mixA]; omega
theorem mixA_get {xs : List App} {i : Nat} {x : App} (hr : xs[i]? = some x) : (mixA xs i)[i]? = some (false, x) := by
  have hi := lt_of_get hr
  rw [mixA, List.getElem?_append_right (by simp; omega), List.length_map, List.length_take, Nat.min_eq_left (by omega), Nat.sub_self, List.getElem?_map, List.getElem?_drop]
  simp [hr]
theorem mixA_set {xs : List App} {i : Nat} {x : App} (hr : xs[i]? = some x) : (mixA xs i).set i (true, x) = mixA xs (i + 1) := by
  have hi := lt_of_get hr
  rw [mixA, List.set_append_right _ _ (by simp; omega), List.length_map, List.length_take, Nat.min_eq_left (by omega), Nat.sub_self, adrop_get hr, List.map_cons, List.set_cons_zero, mixA, take_snoc hr]
  simp
theorem mixA_0 (xs : List App) : dl om (mixA xs 0) = appsD xs := by
  simp only [mixA, List.take_zero, List.map_nil, List.nil_append, List.drop_zero, dl, List.map_map]
  rfl
theorem mixA_n (xs : List App) : dl om (mixA xs xs.length) = dl App.o xs := by
  simp only [mixA, List.take_length, List.drop_length, List.map_nil, List.append_nil, dl, List.map_map]
  rfl
theorem App.dp (x : App) : x.d' = x.p (.sl false 1 (dl iD x.a)) (.sl false 1 (dl iD x.h)) := rfl
theorem copyAppeals_fn (xs : List App) (hlen : xs.length ≤ 1048576) (hx : ∀ x ∈ xs, x.ok0) : Fn prog 95 [.sl false 6 (appsD xs)] (fun rs => rs = [.sl true 6 (dl App.o xs)]) := by
  have hC := cloneA_fn xs hlen
  refine Fn_of' (fn := f95) (by exact func95) c95 r95 (n := 34) (by rfl) (rv := [.tmp 2]) (by rfl) (by simp) ?_
  unfold m95
  simp only [dl_len, ↓wA, ↓wC, wB, frzBE, frzBS, Nat.reduceEqDiff, Nat.reduceAdd, Nat.reduceSub, reduceIte, reduceCtorEq, Nat.reduceBEq, Nat.reduceLT, decide_true]
  refine call_det hC rfl rfl ?_
  simp only [apps_noOwn, dl_len, ↓wA, ↓wC, wB, frzBE, frzBS, Nat.reduceEqDiff, Nat.reduceAdd, Nat.reduceSub, reduceIte, reduceCtorEq, Nat.reduceBEq, Nat.reduceLT, decide_true]
  refine exec_range xs.length (fun i : Nat => ⟨[(3, .own 0), (8, .d (.int .i64 xs.length)), (9, .d (.int .i64 i))], [.val (.sl true 6 (dl om (mixA xs i)))]⟩) (fun _ => True) ?_ trivial ?_ ?_
  · rw [mixA_0]; exact (weak_of _ rfl ⟨⟨rfl, rfl⟩, ⟨rfl, rfl⟩, ⟨rfl, rfl⟩, trivial⟩)
  · intro i hlt _ hd h0
    obtain ⟨x, hr⟩ := get_lt hlt
    have hxo := hx x (List.mem_of_getElem? hr)
    have h1 := cloneI_fn x.a hxo.1
    have h2 := cloneI_fn x.h hxo.2
    have hg := mixA_get hr
    have hom : om (false, x) = x.p (.sl false 1 (dl iD x.a)) (.sl false 1 (dl iD x.h)) := rfl
    have hgs : ∀ (y : D), ((dl om (mixA xs i)).setN i y).nth i = some y := fun y => by rw [setN_nth, if_pos rfl, dl_nth, hg]; rfl
    repeat' (first
        | (simp only [dl_len, mixA_len, hd, h0, dl_nth, Int.toNat_natCast, hg, hom, hgs, setN_setN, Option.map_some, onC_true, ints_noOwn, doff_p3, doff_p4, dget_p3, dget_p4, dset_p3, dset_p4, ↓wA, ↓wC, wB, frzBE, frzBS, Nat.reduceEqDiff, Nat.reduceAdd, Nat.reduceSub, reduceIte, reduceCtorEq, Nat.reduceBEq, Nat.reduceLT, decide_true])
        | (refine onJ_q ?_)
        | (refine call_det h1 rfl rfl ?_)
        | (refine call_det h2 rfl rfl ?_)
        | (refine onI_bare (by simp only [InR]; omega) ?_)
        | (refine execG_split (fun h => ?_) (fun h => ?_) <;> simp only [h])
        | (refine execC_split (fun h => ?_) (fun h => ?_) <;> (try simp only [h]))
        | (refine onPick_split (fun h => ?_) (fun h => ?_) <;> (try simp only [h])))
    have e : x.p (.sl true 1 (dl iD x.a)) (.sl true 1 (dl iD x.h)) = om (true, x) := rfl
    rw [e, dl_setN, mixA_set hr]
    exact ⟨i + 1, (weak_of _ rfl ⟨⟨rfl, rfl⟩, ⟨rfl, rfl⟩, ⟨rfl, rfl⟩, trivial⟩), by omega, by omega⟩
  · intro _ hd
    simp only [hd, ↓wA, ↓wC, wB, frzBE, frzBS, Nat.reduceEqDiff, Nat.reduceAdd, Nat.reduceSub, reduceIte, reduceCtorEq, Nat.reduceBEq, Nat.reduceLT, decide_true]
    rw [mixA_n]
end Go.Pe.Try

set_option maxRecDepth 100000
set_option maxHeartbeats 4000000
set_option linter.all false
namespace Go.Pe.Try
open Go.Proofs.Try
end Go.Pe.Try

set_option maxRecDepth 100000
set_option maxHeartbeats 4000000
set_option linter.all false
namespace Go.Pe.Try
open Go.Proofs.Try
theorem l1Own_fn (v : List Int) (hlen : v.length ≤ 1048576) : Fn prog 109 [.sl false 1 (dl iD v)] (fun rs => rs = [.sl true 1 (dl iD v)]) := by
  refine Fn_of' (fn := f109) (by exact func109) c109 r109 (n := 6) (by rfl) (rv := [.tmp 2]) (by rfl) (by simp) ?_
  unfold m109
  simp only [dl_len, ↓wA, ↓wC, wB, frzBE, frzBS, Nat.reduceEqDiff, Nat.reduceAdd, Nat.reduceSub, reduceIte, reduceCtorEq, Nat.reduceBEq, Nat.reduceLT, decide_true]
  refine onC_i ⟨by omega, by omega⟩ ?_
  simp only [↓wA, ↓wC, wB, frzBE, frzBS, Nat.reduceEqDiff, Nat.reduceAdd, Nat.reduceSub, reduceIte, reduceCtorEq, Nat.reduceBEq, Nat.reduceLT, decide_true]
theorem rd_p {o : List Ob} {K : SV → Prop} {x : App} {da dh : D} (h1 : da.noOwn = true) (h2 : dh.noOwn = true) (h3 : da.size = 1) (h4 : dh.size = 1) : stepRd o (some 6) (x.p da dh) K = K (.d (x.p da dh)) := by simp [App.p, stepRd, D.size, D.noOwn, h1, h2, h3, h4]
theorem isV_p {x : App} {da dh : D} : (x.p da dh).isV = true := rfl
theorem size_p {x : App} {da dh : D} (h3 : da.size = 1) (h4 : dh.size = 1) : (x.p da dh).size = 6 := by simp [App.p, D.size, h3, h4]
theorem noOwn_p {x : App} {da dh : D} (h1 : da.noOwn = true) (h2 : dh.noOwn = true) : (x.p da dh).noOwn = true := by simp [App.p, D.noOwn, h1, h2]
theorem l24Own_fn (xs : List App) (hlen : xs.length ≤ 1048576) (hx : ∀ x ∈ xs, x.ok0) : Fn prog 97 [.sl false 6 (appsD xs)] (fun rs => rs = [.sl true 6 (appsD xs)]) := by
  refine Fn_ofg (ps := [[1, 1, 0, 1, 0, 0, 1, 0, 0, 1, 1, 1], [1, 1, 0, 1, 0, 0, 1, 0, 0, 1, 1, 1]]) (fn := f97) (by exact func97) c97 r97 (n := 30) (by rfl) (rv := [.tmp 2]) (by rfl) (by simp) ?_
  unfold m97
  simp only [ghAll, ghAt]
  simp only [↓wA, ↓wC, wB, frzBE, frzBS, Nat.reduceEqDiff, Nat.reduceAdd, Nat.reduceSub, reduceIte, reduceCtorEq, Nat.reduceBEq, Nat.reduceLT, decide_true]
  refine exec_range xs.length (fun i : Nat => ⟨[(0, .d (.sl false 6 (appsD xs))), (3, .own 0), (4, .d (.int .i64 i))], [.val (.sl true 6 (appsD (xs.take i)))]⟩) (fun _ => True) (weak_of _ rfl ⟨⟨rfl, rfl⟩, ⟨rfl, rfl⟩, ⟨rfl, rfl⟩, trivial⟩) trivial ?_ ?_
  · intro i hlt _ hd h0
    obtain ⟨x, hr⟩ := get_lt hlt
    have hxo := hx x (List.mem_of_getElem? hr)
    have h1 := l1Own_fn x.a hxo.1
    have h2 := l1Own_fn x.h hxo.2
    have hl : (xs.take i).length = i := by simp; omega
    repeat' (first
        | (simp only [dl_len, hd, h0, dl_nth, Int.toNat_natCast, hr, rd_p, size_p, isV_p, noOwn_p, Option.map_some, onC_true, App.dp, ints_noOwn, doff_p3, doff_p4, dget_p3, dget_p4, dset_p3, dset_p4, ↓wA, ↓wC, wB, frzBE, frzBS, Nat.reduceEqDiff, Nat.reduceAdd, Nat.reduceSub, reduceIte, reduceCtorEq, Nat.reduceBEq, Nat.reduceLT, decide_true])
        | (refine call_det h1 rfl rfl ?_)
        | (refine call_det h2 rfl rfl ?_)
        | (refine onI_bare (by simp only [InR]; omega) ?_)
        | (refine execG_split (fun h => ?_) (fun h => ?_) <;> simp only [h])
        | (refine execC_split (fun h => ?_) (fun h => ?_) <;> (try simp only [h]))
        | (refine onPick_split (fun h => ?_) (fun h => ?_) <;> (try simp only [h])))
    refine exec_gh1 (freeze 1 none [3] rfl rfl rfl) ?_
    simp only [obSet, dset_p3, D.unown, ints_unown, ↓wA, ↓wC, wB, frzBE, frzBS, Nat.reduceEqDiff, Nat.reduceAdd, Nat.reduceSub, reduceIte, reduceCtorEq, Nat.reduceBEq, Nat.reduceLT, decide_true]
    refine exec_gh1 (freeze 1 none [4] rfl rfl rfl) ?_
    simp only [obSet, dset_p4, D.unown, ints_unown, ↓wA, ↓wC, wB, frzBE, frzBS, Nat.reduceEqDiff, Nat.reduceAdd, Nat.reduceSub, reduceIte, reduceCtorEq, Nat.reduceBEq, Nat.reduceLT, decide_true]
    repeat' (first
        | (simp only [dl_len, hd, h0, onC_true, rd_p, size_p, isV_p, noOwn_p, ints_noOwn, ↓wA, ↓wC, wB, frzBE, frzBS, Nat.reduceEqDiff, Nat.reduceAdd, Nat.reduceSub, reduceIte, reduceCtorEq, Nat.reduceBEq, Nat.reduceLT, decide_true])
        | (refine onI_bare (by simp only [InR]; omega) ?_)
        | (refine execG_split (fun h => ?_) (fun h => ?_) <;> simp only [h])
        | (refine execC_split (fun h => ?_) (fun h => ?_) <;> (try simp only [h]))
        | (refine onPick_split (fun h => ?_) (fun h => ?_) <;> (try simp only [h])))
    refine onC_i (by simp) ?_
    refine onC_i (by rw [hl]; omega) ?_
    refine onI_bare (by simp only [InR]; omega) ?_
    have happ : (appsD (xs.take i)).app ((x.p (.sl false 1 (dl iD x.a)) (.sl false 1 (dl iD x.h))).cons .nil) = appsD (xs.take (i + 1)) := (app_one (f := App.d') (xs.take i) x).trans (by rw [take_snoc hr])
    rw [happ]
    exact ⟨i + 1, (weak_of _ rfl ⟨⟨rfl, rfl⟩, ⟨rfl, rfl⟩, ⟨rfl, rfl⟩, trivial⟩), by omega, by omega⟩
  · intro _ hd
    simp only [dl_len, hd, ↓wA, ↓wC, wB, frzBE, frzBS, Nat.reduceEqDiff, Nat.reduceAdd, Nat.reduceSub, reduceIte, reduceCtorEq, Nat.reduceBEq, Nat.reduceLT, decide_true]
    rw [List.take_length]
end Go.Pe.Try

set_option maxRecDepth 100000
set_option maxHeartbeats 4000000
set_option linter.all false
namespace Go.Pe.Try
open Go.Proofs.Try
def lapB (day : Int) (x : App) : Bool := decide (x.s = 0) && decide (60 < day - x.d)
def lap (day : Int) (x : App) : App := if lapB day x = true then { x with s := 4 } else x
def lapIds (day : Int) (xs : List App) : List Int := (xs.filter (lapB day)).map App.i
def lapM (day : Int) (xs : List App) (i : Nat) : List App := (xs.take i).map (lap day) ++ xs.drop i
theorem lapM_len (day : Int) (xs : List App) (i : Nat) : (lapM day xs i).length = xs.length := by simp [lapM]; omega
theorem lapM_get {day : Int} {xs : List App} {i : Nat} {x : App} (hr : xs[i]? = some x) : (lapM day xs i)[i]? = some x := by
  have hi := lt_of_get hr
  rw [lapM, List.getElem?_append_right (by simp; omega), List.length_map, List.length_take, Nat.min_eq_left (by omega), Nat.sub_self, List.getElem?_drop]
  exact hr
theorem lapM_set {day : Int} {xs : List App} {i : Nat} {x : App} (hr : xs[i]? = some x) : (lapM day xs i).set i (lap day x) = lapM day xs (i + 1) := by
  have hi := lt_of_get hr
  rw [lapM, List.set_append_right _ _ (by simp; omega), List.length_map, List.length_take, Nat.min_eq_left (by omega), Nat.sub_self, adrop_get hr, List.set_cons_zero, lapM, take_snoc hr]
  simp
theorem lapM_keep {day : Int} {xs : List App} {i : Nat} {x : App} (hr : xs[i]? = some x) (h : lapB day x = false) : lapM day xs i = lapM day xs (i + 1) := by
  rw [← lapM_set hr]
  have : lap day x = x := by simp [lap, h]
  rw [this]
  have h2 := lapM_get (day := day) hr
  have hi := lt_of_get h2
  rw [List.getElem?_eq_getElem hi] at h2
  injection h2 with h2
  rw [← h2, List.set_getElem_self]
theorem lapIds_up {day : Int} {xs : List App} {i : Nat} {x : App} (hr : xs[i]? = some x) : lapIds day (xs.take (i + 1)) = lapIds day (xs.take i) ++ (if lapB day x = true then [x.i] else []) := by
  rw [take_snoc hr, lapIds, lapIds, List.filter_append, List.map_append]
  congr 1
  by_cases h : lapB day x = true
  · simp [h]
  · simp [h]
theorem lapM_n (day : Int) (xs : List App) : lapM day xs xs.length = xs.map (lap day) := by simp [lapM]
def lapR (f : App → D) (xs : List App) (day : Int) : List D := if (goodA xs && within day 0 20000) = true then [.sl true 6 (dl f (xs.map (lap day))), .sl true 1 (dl iD (lapIds day xs)), .bool true] else [.sl true 6 .nil, .sl true 1 .nil, .bool false]
theorem lapse_fn (xs : List App) (day : Int) (hlen : xs.length ≤ 1048576) (hx : ∀ x ∈ xs, x.ok0) : Fn prog 36 [.sl false 6 (appsD xs), .int .i64 day] (fun rs => rs = lapR App.o xs day) := by
  have hG := areAppeals_fn xs hlen hx
  have hD := isDay_fn day
  have hC := copyAppeals_fn xs hlen hx
  unfold lapR
  cases hg : goodA xs with
  | false =>
    rw [hg] at hG
    refine Fn_ofg (ps := [[1, 1, 1, 1, 0, 1, 0, 0, 1, 1, 0, 0, 1, 0], [1, 1, 1, 1, 0, 1, 0, 0, 1, 1, 0, 0, 1, 0], [1, 1, 1, 1, 0, 1, 0, 0, 1, 1, 0, 0, 0], [1, 1, 1, 1, 0, 1, 0, 0, 1, 1, 0, 0, 0]]) (fn := f36) (by exact func36) c36 r36 (n := 50) (by rfl) (rv := [.tmp 4, .tmp 5, .tmp 6]) (by rfl) (by simp) ?_
    unfold m36
    simp only [ghAll, ghAt]
    repeat' (first
        | (simp only [↓wA, ↓wC, wB, frzBE, frzBS, Nat.reduceEqDiff, Nat.reduceAdd, Nat.reduceSub, reduceIte, reduceCtorEq, Nat.reduceBEq, Nat.reduceLT, decide_true])
        | (refine call_det (hG) rfl rfl ?_)
        | (refine callP_det (hG) rfl rfl ?_)
        | (refine call_det (hD) rfl rfl ?_)
        | (refine callP_det (hD) rfl rfl ?_)
        | (refine execG_split (fun h => ?_) (fun h => ?_) <;> simp only [h])
        | (refine execC_split (fun h => ?_) (fun h => ?_) <;> (try simp only [h]))
        | (refine onPick_split (fun h => ?_) (fun h => ?_) <;> (try simp only [h])))
    refine take_nil 6 ?_
    try simp only [↓wA, ↓wC, wB, frzBE, frzBS, Nat.reduceEqDiff, Nat.reduceAdd, Nat.reduceSub, reduceIte, reduceCtorEq, Nat.reduceBEq, Nat.reduceLT, decide_true]
    refine take_nil 1 ?_
    simp
  | true =>
    rw [hg] at hG
    cases hdy : within day 0 20000 with
    | false =>
      rw [hdy] at hD
      refine Fn_ofg (ps := [[1, 1, 1, 1, 0, 1, 0, 0, 1, 1, 0, 0, 1, 0], [1, 1, 1, 1, 0, 1, 0, 0, 1, 1, 0, 0, 1, 0], [1, 1, 1, 1, 0, 1, 0, 0, 1, 1, 0, 0, 0], [1, 1, 1, 1, 0, 1, 0, 0, 1, 1, 0, 0, 0]]) (fn := f36) (by exact func36) c36 r36 (n := 50) (by rfl) (rv := [.tmp 4, .tmp 5, .tmp 6]) (by rfl) (by simp) ?_
      unfold m36
      simp only [ghAll, ghAt]
      repeat' (first
          | (simp only [↓wA, ↓wC, wB, frzBE, frzBS, Nat.reduceEqDiff, Nat.reduceAdd, Nat.reduceSub, reduceIte, reduceCtorEq, Nat.reduceBEq, Nat.reduceLT, decide_true])
          | (refine call_det (hG) rfl rfl ?_)
          | (refine callP_det (hG) rfl rfl ?_)
          | (refine call_det (hD) rfl rfl ?_)
          | (refine callP_det (hD) rfl rfl ?_)
          | (refine execG_split (fun h => ?_) (fun h => ?_) <;> simp only [h])
          | (refine execC_split (fun h => ?_) (fun h => ?_) <;> (try simp only [h]))
          | (refine onPick_split (fun h => ?_) (fun h => ?_) <;> (try simp only [h])))
      refine take_nil 6 ?_
      try simp only [↓wA, ↓wC, wB, frzBE, frzBS, Nat.reduceEqDiff, Nat.reduceAdd, Nat.reduceSub, reduceIte, reduceCtorEq, Nat.reduceBEq, Nat.reduceLT, decide_true]
      refine take_nil 1 ?_
      simp
    | true =>
      rw [hdy] at hD
      have hdb := within_iff.1 hdy
      have hok := goodA_ok hg
      refine Fn_ofg (ps := [[1, 1, 1, 1, 0, 1, 0, 0, 1, 1, 0, 0, 1, 0], [1, 1, 1, 1, 0, 1, 0, 0, 1, 1, 0, 0, 1, 0], [1, 1, 1, 1, 0, 1, 0, 0, 1, 1, 0, 0, 0], [1, 1, 1, 1, 0, 1, 0, 0, 1, 1, 0, 0, 0]]) (fn := f36) (by exact func36) c36 r36 (n := 50) (by rfl) (rv := [.tmp 4, .tmp 5, .tmp 6]) (by rfl) (by simp) ?_
      unfold m36
      simp only [ghAll, ghAt]
      repeat' (first
          | (simp only [dl_len, ↓wA, ↓wC, wB, frzBE, frzBS, Nat.reduceEqDiff, Nat.reduceAdd, Nat.reduceSub, reduceIte, reduceCtorEq, Nat.reduceBEq, Nat.reduceLT, decide_true])
          | (refine call_det (hG) rfl rfl ?_)
          | (refine callP_det (hG) rfl rfl ?_)
          | (refine call_det (hD) rfl rfl ?_)
          | (refine callP_det (hD) rfl rfl ?_)
          | (refine call_det hC rfl rfl ?_)
          | (refine execG_split (fun h => ?_) (fun h => ?_) <;> simp only [h])
          | (refine execC_split (fun h => ?_) (fun h => ?_) <;> (try simp only [h]))
          | (refine onPick_split (fun h => ?_) (fun h => ?_) <;> (try simp only [h])))
      refine exec_rangeN [(8, 1)] xs.length (fun i : Nat => ⟨[(1, .d (.int .i64 day)), (7, .own 0), (8, .own 1), (21, .own 0), (22, .d (.int .i64 xs.length)), (23, .d (.int .i64 i))], [.val (.sl true 6 (dl App.o (lapM day xs i))), .val (.sl true 1 (dl iD (lapIds day (xs.take i))))]⟩) (fun _ => True) ⟨rfl, trivial⟩ ?_ trivial ?_ ?_
      · exact (weak_of _ rfl ⟨⟨rfl, rfl⟩, ⟨rfl, rfl⟩, ⟨rfl, rfl⟩, ⟨rfl, rfl⟩, ⟨rfl, rfl⟩, ⟨rfl, rfl⟩, trivial⟩)
      · intro i hlt _ hd h0
        obtain ⟨x, hr⟩ := get_lt hlt
        have hL := lapM_get (day := day) hr
        have hb := (okA_parts (hok.2.2 x (List.mem_of_getElem? hr))).2.2.1
        have hox : App.o x = x.p (.sl true 1 (dl iD x.a)) (.sl true 1 (dl iD x.h)) := rfl
        have hgs : ∀ (y : D), ((dl App.o (lapM day xs i)).setN i y).nth i = some y := fun y => by rw [setN_nth, if_pos rfl, dl_nth, hL]; rfl
        repeat' (first
            | (simp only [hd, h0, ↓wA, ↓wC, wB, frzBE, frzBS, Nat.reduceEqDiff, Nat.reduceAdd, Nat.reduceSub, reduceIte, reduceCtorEq, Nat.reduceBEq, Nat.reduceLT, decide_true])
            | (refine execG_split (fun h => ?_) (fun h => ?_) <;> simp only [h])
            | (refine execC_split (fun h => ?_) (fun h => ?_) <;> (try simp only [h]))
            | (refine onPick_split (fun h => ?_) (fun h => ?_) <;> (try simp only [h])))
        refine exec_gh _ (unlink 0 (some i) [3] (es := 1) (xs := dl iD x.a) rfl (by simp only [obPart, dl_nth, hL, Option.map_some, hox, Option.bind_some, dget_p3])) fun v1 => ?_
        simp only [obSet, dl_nth, hL, Option.map_some, Option.getD_some, hox, dset_p3, ↓wA, ↓wC, wB, frzBE, frzBS, Nat.reduceEqDiff, Nat.reduceAdd, Nat.reduceSub, reduceIte, reduceCtorEq, Nat.reduceBEq, Nat.reduceLT, decide_true]
        refine exec_gh _ (unlink 0 (some i) [4] (es := 1) (xs := dl iD x.h) rfl (by simp only [obPart, hgs, Option.bind_some, dget_p4])) fun v2 => ?_
        simp only [obSet, hgs, Option.getD_some, dset_p4, setN_setN, ↓wA, ↓wC, wB, frzBE, frzBS, Nat.reduceEqDiff, Nat.reduceAdd, Nat.reduceSub, reduceIte, reduceCtorEq, Nat.reduceBEq, Nat.reduceLT, decide_true]
        have hln : ∀ q v, (D.lnk q v).noOwn = true := fun _ _ => rfl
        have hls : ∀ q v, (D.lnk q v).size = 1 := fun _ _ => rfl
        repeat' (first
            | (simp only [h0, Int.toNat_natCast, hgs, onC_true, rd_p, size_p, isV_p, noOwn_p, hln, hls, ↓wA, ↓wC, wB, frzBE, frzBS, Nat.reduceEqDiff, Nat.reduceAdd, Nat.reduceSub, reduceIte, reduceCtorEq, Nat.reduceBEq, Nat.reduceLT, decide_true])
            | (refine execG_split (fun h => ?_) (fun h => ?_) <;> simp only [h])
            | (refine execC_split (fun h => ?_) (fun h => ?_) <;> (try simp only [h]))
            | (refine onPick_split (fun h => ?_) (fun h => ?_) <;> (try simp only [h])))
        refine exec_gh1 (relink 0 3 2 (some i) [3] rfl (by simp only [obPart, hgs, Option.bind_some, dget_p3]) rfl rfl (by decide) rfl) ?_
        simp only [obSet, hgs, Option.getD_some, dset_p3, setN_setN, ↓wA, ↓wC, wB, frzBE, frzBS, Nat.reduceEqDiff, Nat.reduceAdd, Nat.reduceSub, reduceIte, reduceCtorEq, Nat.reduceBEq, Nat.reduceLT, decide_true]
        refine exec_gh1 (relink 0 5 4 (some i) [4] rfl (by simp only [obPart, hgs, Option.bind_some, dget_p4]) rfl rfl (by decide) rfl) ?_
        simp only [obSet, hgs, Option.getD_some, dset_p4, setN_setN, ↓wA, ↓wC, wB, frzBE, frzBS, Nat.reduceEqDiff, Nat.reduceAdd, Nat.reduceSub, reduceIte, reduceCtorEq, Nat.reduceBEq, Nat.reduceLT, decide_true]
        have hids := lapIds_up (day := day) hr
        have hk : App.p { i := x.i, q := x.q, d := x.d, a := x.a, h := x.h, s := 4 } (.sl true 1 (dl iD x.a)) (.sl true 1 (dl iD x.h)) = App.o { x with s := 4 } := rfl
        have hil : (lapIds day (xs.take i)).length ≤ 10 := by
          simp only [lapIds, List.length_map]
          exact Nat.le_trans (List.length_filter_le _ _) (by simp; omega)
        cases hB : lapB day x with
        | false =>
          have e1 : lap day x = x := by simp [lap, hB]
          have e2 : (dl App.o (lapM day xs i)).setN i (x.p (.sl true 1 (dl iD x.a)) (.sl true 1 (dl iD x.h))) = dl App.o (lapM day xs (i + 1)) := by
            rw [← hox, dl_setN, ← lapM_set hr, e1]
          rw [hB] at hids
          simp only [Bool.false_eq_true, if_false, List.append_nil] at hids
          rw [← hids, e2]
          rw [lapB, Bool.and_eq_false_iff] at hB
          cases hs : decide (x.s = 0) with
          | false =>
            repeat' (first
                | (simp only [h0, hs, onC_true, doff_p5, dget_p5, ↓wA, ↓wC, wB, frzBE, frzBS, Nat.reduceEqDiff, Nat.reduceAdd, Nat.reduceSub, reduceIte, reduceCtorEq, Nat.reduceBEq, Nat.reduceLT, decide_true])
                | (refine onI_bare (by simp only [InR]; omega) ?_)
                | (refine execG_split (fun h => ?_) (fun h => ?_) <;> simp only [h])
                | (refine execC_split (fun h => ?_) (fun h => ?_) <;> (try simp only [h]))
                | (refine onPick_split (fun h => ?_) (fun h => ?_) <;> (try simp only [h])))
            exact ⟨i + 1, (weak_of _ rfl ⟨⟨rfl, rfl⟩, ⟨rfl, rfl⟩, ⟨rfl, rfl⟩, ⟨rfl, rfl⟩, ⟨rfl, rfl⟩, ⟨rfl, rfl⟩, trivial⟩), by omega, by omega⟩
          | true =>
            have h6 : decide (60 < day - x.d) = false := by
              rcases hB with h | h
              · rw [hs] at h; cases h
              · exact h
            repeat' (first
                | (simp only [h0, hs, h6, onC_true, doff_p5, dget_p5, doff_p2, dget_p2, ↓wA, ↓wC, wB, frzBE, frzBS, Nat.reduceEqDiff, Nat.reduceAdd, Nat.reduceSub, reduceIte, reduceCtorEq, Nat.reduceBEq, Nat.reduceLT, decide_true])
                | (refine onI_bare (by simp only [InR]; omega) ?_)
                | (refine execG_split (fun h => ?_) (fun h => ?_) <;> simp only [h])
                | (refine execC_split (fun h => ?_) (fun h => ?_) <;> (try simp only [h]))
                | (refine onPick_split (fun h => ?_) (fun h => ?_) <;> (try simp only [h])))
            exact ⟨i + 1, (weak_of _ rfl ⟨⟨rfl, rfl⟩, ⟨rfl, rfl⟩, ⟨rfl, rfl⟩, ⟨rfl, rfl⟩, ⟨rfl, rfl⟩, ⟨rfl, rfl⟩, trivial⟩), by omega, by omega⟩
        | true =>
          have e1 : lap day x = { x with s := 4 } := by simp [lap, hB]
          have e2 : (dl App.o (lapM day xs i)).setN i (App.o { x with s := 4 }) = dl App.o (lapM day xs (i + 1)) := by
            rw [dl_setN, ← lapM_set hr, e1]
          rw [hB] at hids
          simp only [if_true] at hids
          rw [lapB, Bool.and_eq_true] at hB
          have hs := hB.1
          have h6 := hB.2
          repeat' (first
              | (simp only [h0, hs, h6, Int.toNat_natCast, hgs, onC_true, doff_p0, dget_p0, doff_p5, dget_p5, dset_p5, doff_p2, dget_p2, setN_setN, hk, e2, dl_len, app_int, ↓wA, ↓wC, wB, frzBE, frzBS, Nat.reduceEqDiff, Nat.reduceAdd, Nat.reduceSub, reduceIte, reduceCtorEq, Nat.reduceBEq, Nat.reduceLT, decide_true])
              | (refine onI_bare (by simp only [InR]; omega) ?_)
              | (refine execG_split (fun h => ?_) (fun h => ?_) <;> simp only [h])
              | (refine execC_split (fun h => ?_) (fun h => ?_) <;> (try simp only [h]))
              | (refine onPick_split (fun h => ?_) (fun h => ?_) <;> (try simp only [h])))
          refine onC_i (by simp) ?_
          refine onC_i (by omega) ?_
          refine onI_bare (by simp only [InR]; omega) ?_
          rw [← hids]
          exact ⟨i + 1, (weak_of _ rfl ⟨⟨rfl, rfl⟩, ⟨rfl, rfl⟩, ⟨rfl, rfl⟩, ⟨rfl, rfl⟩, ⟨rfl, rfl⟩, ⟨rfl, rfl⟩, trivial⟩), by omega, by omega⟩
      · intro _ hd
        simp only [hd, ↓wA, ↓wC, wB, frzBE, frzBS, Nat.reduceEqDiff, Nat.reduceAdd, Nat.reduceSub, reduceIte, reduceCtorEq, Nat.reduceBEq, Nat.reduceLT, decide_true]
        rw [lapM_n, List.take_length]
end Go.Pe.Try

set_option maxRecDepth 100000
set_option maxHeartbeats 4000000
set_option linter.all false
namespace Go.Pe.Try
open Go.Proofs.Try
theorem specLapse_fn (xs : List App) (day : Int) (hlen : xs.length ≤ 1048576) (hx : ∀ x ∈ xs, x.ok0) : Fn prog 37 [.sl false 6 (appsD xs), .int .i64 day] (fun rs => rs = lapR App.d' xs day) := by
  have hG := l24Good_fn xs hlen hx
  have hD := l2Day_fn day
  have hC := l24Own_fn xs hlen hx
  unfold lapR
  cases hg : goodA xs with
  | false =>
    rw [hg] at hG
    refine Fn_of' (fn := f37) (by exact func37) c37 r37 (n := 56) (by rfl) (rv := [.tmp 4, .tmp 5, .tmp 6]) (by rfl) (by simp) ?_
    unfold m37
    repeat' (first
        | (simp only [↓wA, ↓wC, wB, frzBE, frzBS, Nat.reduceEqDiff, Nat.reduceAdd, Nat.reduceSub, reduceIte, reduceCtorEq, Nat.reduceBEq, Nat.reduceLT, decide_true])
        | (refine call_det (hG) rfl rfl ?_)
        | (refine callP_det (hG) rfl rfl ?_)
        | (refine call_det (hD) rfl rfl ?_)
        | (refine callP_det (hD) rfl rfl ?_)
        | (refine execG_split (fun h => ?_) (fun h => ?_) <;> simp only [h])
        | (refine execC_split (fun h => ?_) (fun h => ?_) <;> (try simp only [h]))
        | (refine onPick_split (fun h => ?_) (fun h => ?_) <;> (try simp only [h])))
    all_goals rfl
  | true =>
    rw [hg] at hG
    cases hdy : within day 0 20000 with
    | false =>
      rw [hdy] at hD
      refine Fn_of' (fn := f37) (by exact func37) c37 r37 (n := 56) (by rfl) (rv := [.tmp 4, .tmp 5, .tmp 6]) (by rfl) (by simp) ?_
      unfold m37
      repeat' (first
          | (simp only [↓wA, ↓wC, wB, frzBE, frzBS, Nat.reduceEqDiff, Nat.reduceAdd, Nat.reduceSub, reduceIte, reduceCtorEq, Nat.reduceBEq, Nat.reduceLT, decide_true])
          | (refine call_det (hG) rfl rfl ?_)
          | (refine callP_det (hG) rfl rfl ?_)
          | (refine call_det (hD) rfl rfl ?_)
          | (refine callP_det (hD) rfl rfl ?_)
          | (refine execG_split (fun h => ?_) (fun h => ?_) <;> simp only [h])
          | (refine execC_split (fun h => ?_) (fun h => ?_) <;> (try simp only [h]))
          | (refine onPick_split (fun h => ?_) (fun h => ?_) <;> (try simp only [h])))
      all_goals rfl
    | true =>
      rw [hdy] at hD
      have hdb := within_iff.1 hdy
      have hok := goodA_ok hg
      have hdo5 : ∀ y : App, doff [5] y.d' = 5 := fun y => by simp [App.d', doff, D.pre, D.nth, D.size]
      have hdo2 : ∀ y : App, doff [2] y.d' = 2 := fun y => by simp [App.d', doff, D.pre, D.nth, D.size]
      have hdo0 : ∀ y : App, doff [0] y.d' = 0 := fun y => by simp [App.d', doff, D.pre, D.nth, D.size]
      have hdg5 : ∀ y : App, dget [5] y.d' = some (.int .i64 y.s) := fun y => rfl
      have hdg2 : ∀ y : App, dget [2] y.d' = some (.int .i64 y.d) := fun y => rfl
      have hdg0 : ∀ y : App, dget [0] y.d' = some (.int .i64 y.i) := fun y => rfl
      have hds5 : ∀ (y : App) (k : Int), dset [5] y.d' (.int .i64 k) = App.d' { y with s := k } := fun y k => rfl
      refine Fn_of' (fn := f37) (by exact func37) c37 r37 (n := 56) (by rfl) (rv := [.tmp 4, .tmp 5, .tmp 6]) (by rfl) (by simp) ?_
      unfold m37
      repeat' (first
          | (simp only [dl_len, ↓wA, ↓wC, wB, frzBE, frzBS, Nat.reduceEqDiff, Nat.reduceAdd, Nat.reduceSub, reduceIte, reduceCtorEq, Nat.reduceBEq, Nat.reduceLT, decide_true])
          | (refine call_det (hG) rfl rfl ?_)
          | (refine callP_det (hG) rfl rfl ?_)
          | (refine call_det (hD) rfl rfl ?_)
          | (refine callP_det (hD) rfl rfl ?_)
          | (refine call_det hC rfl rfl ?_)
          | (refine execG_split (fun h => ?_) (fun h => ?_) <;> simp only [h])
          | (refine execC_split (fun h => ?_) (fun h => ?_) <;> (try simp only [h]))
          | (refine onPick_split (fun h => ?_) (fun h => ?_) <;> (try simp only [h])))
      refine exec_range xs.length (fun i : Nat => ⟨[(1, .d (.int .i64 day)), (7, .own 0), (8, .own 1), (9, .d (.int .i64 i))], [.val (.sl true 1 (dl iD (lapIds day (xs.take i)))), .val (.sl true 6 (dl App.d' (lapM day xs i)))]⟩) (fun _ => True) (weak_of _ rfl ⟨⟨rfl, rfl⟩, ⟨rfl, rfl⟩, ⟨rfl, rfl⟩, ⟨rfl, rfl⟩, trivial⟩) trivial ?_ ?_
      · intro i hlt _ hd h0
        obtain ⟨x, hr⟩ := get_lt hlt
        have hL := lapM_get (day := day) hr
        have hb := (okA_parts (hok.2.2 x (List.mem_of_getElem? hr))).2.2.1
        have hgs : ∀ (y : D), ((dl App.d' (lapM day xs i)).setN i y).nth i = some y := fun y => by rw [setN_nth, if_pos rfl, dl_nth, hL]; rfl
        have hlm := lapM_len day xs i
        have hids := lapIds_up (day := day) hr
        have hil : (lapIds day (xs.take i)).length ≤ 10 := by
          simp only [lapIds, List.length_map]
          exact Nat.le_trans (List.length_filter_le _ _) (by simp; omega)
        cases hB : lapB day x with
        | false =>
          rw [hB] at hids
          simp only [Bool.false_eq_true, if_false, List.append_nil] at hids
          have hkp := lapM_keep hr hB
          rw [lapB, Bool.and_eq_false_iff] at hB
          cases hs : decide (x.s = 0) with
          | false =>
            repeat' (first
                | (simp only [dl_len, hlm, hd, h0, dl_nth, hL, Int.toNat_natCast, Option.map_some, onC_true, apps_noOwn, App.noOwn, oa_size, oa_isV, ↓rd_app, hdo5, hdg5, hs, ↓wA, ↓wC, wB, frzBE, frzBS, Nat.reduceEqDiff, Nat.reduceAdd, Nat.reduceSub, reduceIte, reduceCtorEq, Nat.reduceBEq, Nat.reduceLT, decide_true])
                | (refine onI_bare (by simp only [InR]; omega) ?_)
                | (refine execG_split (fun h => ?_) (fun h => ?_) <;> simp only [h])
                | (refine execC_split (fun h => ?_) (fun h => ?_) <;> (try simp only [h]))
                | (refine onPick_split (fun h => ?_) (fun h => ?_) <;> (try simp only [h])))
            refine ⟨i + 1, ?_, by omega, by omega⟩
            rw [hids, ← hkp]
            exact (weak_of _ rfl ⟨⟨rfl, rfl⟩, ⟨rfl, rfl⟩, ⟨rfl, rfl⟩, ⟨rfl, rfl⟩, trivial⟩)
          | true =>
            have h6 : decide (60 < day - x.d) = false := by
              rcases hB with h | h
              · rw [hs] at h; cases h
              · exact h
            repeat' (first
                | (simp only [dl_len, hlm, hd, h0, dl_nth, hL, Int.toNat_natCast, Option.map_some, onC_true, apps_noOwn, App.noOwn, oa_size, oa_isV, ↓rd_app, hdo5, hdg5, hdo2, hdg2, hs, h6, ↓wA, ↓wC, wB, frzBE, frzBS, Nat.reduceEqDiff, Nat.reduceAdd, Nat.reduceSub, reduceIte, reduceCtorEq, Nat.reduceBEq, Nat.reduceLT, decide_true])
                | (refine onI_bare (by simp only [InR]; omega) ?_)
                | (refine execG_split (fun h => ?_) (fun h => ?_) <;> simp only [h])
                | (refine execC_split (fun h => ?_) (fun h => ?_) <;> (try simp only [h]))
                | (refine onPick_split (fun h => ?_) (fun h => ?_) <;> (try simp only [h])))
            refine ⟨i + 1, ?_, by omega, by omega⟩
            rw [hids, ← hkp]
            exact (weak_of _ rfl ⟨⟨rfl, rfl⟩, ⟨rfl, rfl⟩, ⟨rfl, rfl⟩, ⟨rfl, rfl⟩, trivial⟩)
        | true =>
          have e1 : lap day x = { x with s := 4 } := by simp [lap, hB]
          have e2 : (dl App.d' (lapM day xs i)).setN i (App.d' { x with s := 4 }) = dl App.d' (lapM day xs (i + 1)) := by
            rw [dl_setN, ← lapM_set hr, e1]
          rw [hB] at hids
          simp only [if_true] at hids
          rw [lapB, Bool.and_eq_true] at hB
          have hs := hB.1
          have h6 := hB.2
          repeat' (first
              | (simp only [dl_len, hlm, hd, h0, dl_nth, hL, hgs, Int.toNat_natCast, Option.map_some, onC_true, apps_noOwn, App.noOwn, oa_size, oa_isV, ↓rd_app, hdo5, hdg5, hds5, hdo2, hdg2, hdo0, hdg0, hs, h6, setN_setN, e2, app_int, ↓wA, ↓wC, wB, frzBE, frzBS, Nat.reduceEqDiff, Nat.reduceAdd, Nat.reduceSub, reduceIte, reduceCtorEq, Nat.reduceBEq, Nat.reduceLT, decide_true])
              | (refine onI_bare (by simp only [InR]; omega) ?_)
              | (refine execG_split (fun h => ?_) (fun h => ?_) <;> simp only [h])
              | (refine execC_split (fun h => ?_) (fun h => ?_) <;> (try simp only [h]))
              | (refine onPick_split (fun h => ?_) (fun h => ?_) <;> (try simp only [h])))
          refine onC_i (by simp) ?_
          refine onC_i (by omega) ?_
          refine onI_bare (by simp only [InR]; omega) ?_
          rw [← hids]
          exact ⟨i + 1, (weak_of _ rfl ⟨⟨rfl, rfl⟩, ⟨rfl, rfl⟩, ⟨rfl, rfl⟩, ⟨rfl, rfl⟩, trivial⟩), by omega, by omega⟩
      · intro _ hd
        simp only [dl_len, lapM_len, hd, ↓wA, ↓wC, wB, frzBE, frzBS, Nat.reduceEqDiff, Nat.reduceAdd, Nat.reduceSub, reduceIte, reduceCtorEq, Nat.reduceBEq, Nat.reduceLT, decide_true]
        rw [lapM_n, List.take_length]
end Go.Pe.Try

set_option maxRecDepth 100000
set_option maxHeartbeats 4000000
set_option linter.all false
namespace Go.Pe.Try
open Go.Proofs.Try
end Go.Pe.Try

set_option maxRecDepth 100000
set_option maxHeartbeats 4000000
set_option linter.all false
namespace Go.Pe.Try
open Go.Proofs.Try
end Go.Pe.Try

set_option maxRecDepth 100000
set_option maxHeartbeats 4000000
set_option linter.all false
namespace Go.Pe.Try
open Go.Proofs.Try
theorem isNaN_fn (a : Int) : Fn prog 130 [.int .i64 a] (fun rs => rs = [.bool false]) := by
  refine Fn_of' (fn := f130) (by exact func130) c130 r130 (n := 6) (by rfl) (rv := [.tmp 2]) (by rfl) (by simp) ?_
  unfold m130
  simp only [↓wA, ↓wC, wB, frzBE, frzBS, Nat.reduceEqDiff, Nat.reduceAdd, Nat.reduceSub, reduceIte, reduceCtorEq, Nat.reduceBEq, Nat.reduceLT, decide_true]
end Go.Pe.Try

set_option maxRecDepth 100000
set_option maxHeartbeats 4000000
set_option linter.all false
namespace Go.Pe.Try
open Go.Proofs.Try
def waitA (x : App) (p : Int) : Bool := decide (x.s = 0) && x.a.contains p && !x.h.contains p
theorem waits_fn (x : App) (p : Int) (hx : x.ok0) : Fn prog 88 [x.d', .int .i64 p] (fun rs => rs = [.bool (waitA x p)]) := by
  have h1 := containsI_fn x.a p hx.1
  have h2 := containsI_fn x.h p hx.2
  refine Fn_of' (fn := f88) (by exact func88) c88 r88 (n := 21) (by rfl) (rv := [.tmp 4]) (by rfl) (by simp) ?_
  unfold m88
  simp only [App.d']
  repeat' (first
      | (simp only [ints_noOwn, onC_true, ↓wA, ↓wC, wB, frzBE, frzBS, Nat.reduceEqDiff, Nat.reduceAdd, Nat.reduceSub, reduceIte, reduceCtorEq, Nat.reduceBEq, Nat.reduceLT, decide_true])
      | (refine call_det (h1) rfl rfl ?_)
      | (refine callP_det (h1) rfl rfl ?_)
      | (refine call_det (h2) rfl rfl ?_)
      | (refine callP_det (h2) rfl rfl ?_)
      | (refine execG_split (fun h => ?_) (fun h => ?_) <;> simp only [h])
      | (refine execC_split (fun h => ?_) (fun h => ?_) <;> (try simp only [h]))
      | (refine onPick_split (fun h => ?_) (fun h => ?_) <;> (try simp only [h])))
  all_goals simp_all [waitA]
end Go.Pe.Try

set_option maxRecDepth 100000
set_option maxHeartbeats 4000000
set_option linter.all false
namespace Go.Pe.Try
open Go.Proofs.Try
end Go.Pe.Try
