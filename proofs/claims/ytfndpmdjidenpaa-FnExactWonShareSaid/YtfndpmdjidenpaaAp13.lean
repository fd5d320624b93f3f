/- The won share, walked. -/
import Derived.Test.YtfndpmdjidenpaaAp12
set_option maxRecDepth 100000
set_option maxHeartbeats 4000000
set_option linter.all false
namespace Go.Pe.Try
open Go.Proofs.Try
def isWon (x : App) : Bool := decide (x.s = 2)
def isDone (x : App) : Bool := decide (x.s = 2) || decide (x.s = 3)
theorem isWon_le (xs : List App) : xs.countP isWon ≤ xs.countP isDone := List.countP_mono_left fun x _ h => by simp [isWon, isDone] at h ⊢; exact .inl h
def wonBad : List D := [.int .i64 0, .int .i64 0, .bool false]
def wonR (xs : List App) : List D := if (goodA xs && !decide (((xs.countP isDone : Nat) : Int) = 0)) = true then lowest (xs.countP isWon) (xs.countP isDone) ++ [.bool true] else wonBad
theorem specWon_fn (xs : List App) (hlen : xs.length ≤ 1048576) (hx : ∀ x ∈ xs, x.ok0) : Fn prog 21 [.sl false 6 (appsD xs)] (fun rs => rs = wonR xs) := by
  have hG := l24Good_fn xs hlen hx
  cases hg : goodA xs with
  | false =>
    rw [hg] at hG
    refine Fn_of' (fn := f21) (by exact func21) c21 r21 (n := 44) (by rfl) (rv := [.tmp 2, .tmp 3, .tmp 4]) (by rfl) (by simp) ?_
    unfold m21
    repeat' (first
        | (simp only [↓wA, ↓wC, wB, frzBE, frzBS, Nat.reduceEqDiff, Nat.reduceAdd, Nat.reduceSub, reduceIte, reduceCtorEq, Nat.reduceBEq, Nat.reduceLT, decide_true])
        | (refine call_det (hG) rfl rfl ?_)
        | (refine callP_det (hG) rfl rfl ?_)
        | (refine execG_split (fun h => ?_) (fun h => ?_) <;> simp only [h])
        | (refine execC_split (fun h => ?_) (fun h => ?_) <;> (try simp only [h]))
        | (refine onPick_split (fun h => ?_) (fun h => ?_) <;> (try simp only [h])))
    all_goals simp [wonR, hg, wonBad]
  | true =>
    rw [hg] at hG
    have h10 := (goodA_ok hg).1
    refine Fn_of' (fn := f21) (by exact func21) c21 r21 (n := 44) (by rfl) (rv := [.tmp 2, .tmp 3, .tmp 4]) (by rfl) (by simp) ?_
    unfold m21
    repeat' (first
        | (simp only [↓wA, ↓wC, wB, frzBE, frzBS, Nat.reduceEqDiff, Nat.reduceAdd, Nat.reduceSub, reduceIte, reduceCtorEq, Nat.reduceBEq, Nat.reduceLT, decide_true])
        | (refine call_det (hG) rfl rfl ?_)
        | (refine callP_det (hG) rfl rfl ?_)
        | (refine execG_split (fun h => ?_) (fun h => ?_) <;> simp only [h])
        | (refine execC_split (fun h => ?_) (fun h => ?_) <;> (try simp only [h]))
        | (refine onPick_split (fun h => ?_) (fun h => ?_) <;> (try simp only [h])))
    refine exec_range xs.length (fun i : Nat => ⟨[(0, .d (.sl false 6 (appsD xs))), (5, .d (.int .i64 ((xs.take i).countP isWon : Nat))), (6, .d (.int .i64 ((xs.take i).countP isDone : Nat))), (7, .d (.int .i64 i))], []⟩) (fun _ => True) (weak_of _ rfl ⟨⟨rfl, rfl⟩, ⟨rfl, rfl⟩, ⟨rfl, rfl⟩, ⟨rfl, rfl⟩, trivial⟩) trivial ?_ ?_
    · intro i hlt _ hd h0
      obtain ⟨r, hr⟩ := get_lt hlt
      have c1 := countP_up (p := isWon) hr
      have c2 := countP_up (p := isDone) hr
      have l1 := countP_le' (p := isWon) (xs := xs) (i := i)
      have l2 := countP_le' (p := isDone) (xs := xs) (i := i)
      repeat' (first
          | (simp only [dl_len, dl_nth, hd, h0, Int.toNat_natCast, hr, Option.map_some, onC_true, ↓fa_app5, ↓wA, ↓wC, wB, frzBE, frzBS, Nat.reduceEqDiff, Nat.reduceAdd, Nat.reduceSub, reduceIte, reduceCtorEq, Nat.reduceBEq, Nat.reduceLT, decide_true])
          | (refine onI_bare (by simp only [InR]; omega) ?_)
          | (refine execG_split (fun h => ?_) (fun h => ?_) <;> simp only [h])
          | (refine execC_split (fun h => ?_) (fun h => ?_) <;> (try simp only [h]))
          | (refine onPick_split (fun h => ?_) (fun h => ?_) <;> (try simp only [h])))
      all_goals
        refine ⟨i + 1, weak_of _ rfl ⟨⟨rfl, rfl⟩, ⟨?_, rfl⟩, ⟨?_, rfl⟩, ⟨rfl, rfl⟩, trivial⟩, by omega, by omega⟩
        · simp_all [isWon, isDone, look]
        · simp_all [isWon, isDone, look]
    · intro _ hd
      have e1 : (xs.take xs.length).countP isWon = xs.countP isWon := by rw [List.take_length]
      have e2 : (xs.take xs.length).countP isDone = xs.countP isDone := by rw [List.take_length]
      have b1 : xs.countP isWon ≤ 10 := Nat.le_trans List.countP_le_length h10
      have b2 : xs.countP isDone ≤ 10 := Nat.le_trans List.countP_le_length h10
      rw [e1, e2]
      by_cases hz : ((xs.countP isDone : Nat) : Int) = 0
      · have hq := decide_eq_true hz
        repeat' (first
            | (simp only [dl_len, hd, hq, ↓wA, ↓wC, wB, frzBE, frzBS, Nat.reduceEqDiff, Nat.reduceAdd, Nat.reduceSub, reduceIte, reduceCtorEq, Nat.reduceBEq, Nat.reduceLT, decide_true])
            | (refine execG_split (fun h => ?_) (fun h => ?_) <;> simp only [h])
            | (refine execC_split (fun h => ?_) (fun h => ?_) <;> (try simp only [h]))
            | (refine onPick_split (fun h => ?_) (fun h => ?_) <;> (try simp only [h])))
        all_goals (rw [wonR, hg, hq]; rfl)
      · have hq := decide_eq_false hz
        have hR := l2Reduce_fn (xs.countP isWon) (xs.countP isDone) (by omega) (by omega) (by omega)
        simp only [lowest] at hR
        repeat' (first
            | (simp only [dl_len, hd, hq, ↓wA, ↓wC, wB, frzBE, frzBS, Nat.reduceEqDiff, Nat.reduceAdd, Nat.reduceSub, reduceIte, reduceCtorEq, Nat.reduceBEq, Nat.reduceLT, decide_true])
            | (refine call_det (hR) rfl rfl ?_)
            | (refine callP_det (hR) rfl rfl ?_)
            | (refine execG_split (fun h => ?_) (fun h => ?_) <;> simp only [h])
            | (refine execC_split (fun h => ?_) (fun h => ?_) <;> (try simp only [h]))
            | (refine onPick_split (fun h => ?_) (fun h => ?_) <;> (try simp only [h])))
        all_goals (rw [wonR, hg, hq]; rfl)
theorem won_fn (xs : List App) (hlen : xs.length ≤ 1048576) (hx : ∀ x ∈ xs, x.ok0) : Fn prog 22 [.sl false 6 (appsD xs)] (fun rs => rs = wonR xs) := by
  have hG := areAppeals_fn xs hlen hx
  refine Fn_of' (fn := f22) (by exact func22) c22 r22 (n := 48) (by rfl) (rv := [.tmp 2, .tmp 3, .tmp 4]) (by rfl) (by simp) ?_
  unfold m22
  simp only [dl_len, ↓wA, ↓wC, wB, frzBE, frzBS, Nat.reduceEqDiff, Nat.reduceAdd, Nat.reduceSub, reduceIte, reduceCtorEq, Nat.reduceBEq, Nat.reduceLT, decide_true]
  refine exec_range xs.length (fun i : Nat => ⟨[(0, .d (.sl false 6 (appsD xs))), (5, .d (.int .i64 ((xs.take i).countP isWon : Nat))), (6, .d (.int .i64 ((xs.take i).countP isDone : Nat))), (11, .d (.sl false 6 (appsD xs))), (12, .d (.int .i64 xs.length)), (13, .d (.int .i64 i))], []⟩) (fun _ => True) (weak_of _ rfl ⟨⟨rfl, rfl⟩, ⟨rfl, rfl⟩, ⟨rfl, rfl⟩, ⟨rfl, rfl⟩, ⟨rfl, rfl⟩, ⟨rfl, rfl⟩, trivial⟩) trivial ?_ ?_
  · intro i hlt _ hd h0
    obtain ⟨r, hr⟩ := get_lt hlt
    have c1 := countP_up (p := isWon) hr
    have c2 := countP_up (p := isDone) hr
    have l1 := countP_le' (p := isWon) (xs := xs) (i := i)
    have l2 := countP_le' (p := isDone) (xs := xs) (i := i)
    repeat' (first
        | (simp only [dl_len, dl_nth, hd, h0, Int.toNat_natCast, hr, Option.map_some, onC_true, ↓rd_app, oa_size, oa_isV, App.noOwn, App.d', ints_noOwn, ↓wA, ↓wC, wB, frzBE, frzBS, Nat.reduceEqDiff, Nat.reduceAdd, Nat.reduceSub, reduceIte, reduceCtorEq, Nat.reduceBEq, Nat.reduceLT, decide_true])
        | (refine onI_bare (by simp only [InR]; omega) ?_)
        | (refine execG_split (fun h => ?_) (fun h => ?_) <;> simp only [h])
        | (refine execC_split (fun h => ?_) (fun h => ?_) <;> (try simp only [h]))
        | (refine onPick_split (fun h => ?_) (fun h => ?_) <;> (try simp only [h])))
    all_goals
      refine ⟨i + 1, weak_of _ rfl ⟨⟨rfl, rfl⟩, ⟨?_, rfl⟩, ⟨?_, rfl⟩, ⟨rfl, rfl⟩, ⟨rfl, rfl⟩, ⟨rfl, rfl⟩, trivial⟩, by omega, by omega⟩
      · simp_all [isWon, isDone, look]
      · simp_all [isWon, isDone, look]
  · intro _ hd
    have e1 : (xs.take xs.length).countP isWon = xs.countP isWon := by rw [List.take_length]
    have e2 : (xs.take xs.length).countP isDone = xs.countP isDone := by rw [List.take_length]
    rw [e1, e2]
    cases hg : goodA xs with
    | false =>
      rw [hg] at hG
      repeat' (first
          | (simp only [hd, ↓wA, ↓wC, wB, frzBE, frzBS, Nat.reduceEqDiff, Nat.reduceAdd, Nat.reduceSub, reduceIte, reduceCtorEq, Nat.reduceBEq, Nat.reduceLT, decide_true])
          | (refine call_det (hG) rfl rfl ?_)
          | (refine callP_det (hG) rfl rfl ?_)
          | (refine execG_split (fun h => ?_) (fun h => ?_) <;> simp only [h])
          | (refine execC_split (fun h => ?_) (fun h => ?_) <;> (try simp only [h]))
          | (refine onPick_split (fun h => ?_) (fun h => ?_) <;> (try simp only [h])))
      all_goals simp [wonR, hg, wonBad]
    | true =>
      rw [hg] at hG
      have h10 := (goodA_ok hg).1
      have b1 : xs.countP isWon ≤ 10 := Nat.le_trans List.countP_le_length h10
      have b2 : xs.countP isDone ≤ 10 := Nat.le_trans List.countP_le_length h10
      by_cases hz : ((xs.countP isDone : Nat) : Int) = 0
      · have hq := decide_eq_true hz
        repeat' (first
            | (simp only [dl_len, hd, hq, ↓wA, ↓wC, wB, frzBE, frzBS, Nat.reduceEqDiff, Nat.reduceAdd, Nat.reduceSub, reduceIte, reduceCtorEq, Nat.reduceBEq, Nat.reduceLT, decide_true])
            | (refine call_det (hG) rfl rfl ?_)
            | (refine callP_det (hG) rfl rfl ?_)
            | (refine execG_split (fun h => ?_) (fun h => ?_) <;> simp only [h])
            | (refine execC_split (fun h => ?_) (fun h => ?_) <;> (try simp only [h]))
            | (refine onPick_split (fun h => ?_) (fun h => ?_) <;> (try simp only [h])))
        all_goals (rw [wonR, hg, hq]; rfl)
      · have hq := decide_eq_false hz
        have hR := reduced_fn (xs.countP isWon) (xs.countP isDone) (by omega) (by omega) (by omega)
        simp only [lowest] at hR
        repeat' (first
            | (simp only [dl_len, hd, hq, ↓wA, ↓wC, wB, frzBE, frzBS, Nat.reduceEqDiff, Nat.reduceAdd, Nat.reduceSub, reduceIte, reduceCtorEq, Nat.reduceBEq, Nat.reduceLT, decide_true])
            | (refine call_det (hG) rfl rfl ?_)
            | (refine callP_det (hG) rfl rfl ?_)
            | (refine call_det (hR) rfl rfl ?_)
            | (refine callP_det (hR) rfl rfl ?_)
            | (refine execG_split (fun h => ?_) (fun h => ?_) <;> simp only [h])
            | (refine execC_split (fun h => ?_) (fun h => ?_) <;> (try simp only [h]))
            | (refine onPick_split (fun h => ?_) (fun h => ?_) <;> (try simp only [h])))
        all_goals (rw [wonR, hg, hq]; rfl)
theorem wonR_form (xs : List App) : ∃ a b c, wonR xs = [.int .i64 a, .int .i64 b, .bool c] := by
  unfold wonR wonBad
  split
  · exact ⟨_, _, _, rfl⟩
  · exact ⟨_, _, _, rfl⟩
end Go.Pe.Try
