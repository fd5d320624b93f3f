/- The busiest party and the won share, walked. -/
import Derived.Test.YtfndpmdjidenpaaAp11
set_option maxRecDepth 100000
set_option maxHeartbeats 4000000
set_option linter.all false
namespace Go.Pe.Try
open Go.Proofs.Try
theorem countP_up {α : Type} {p : α → Bool} {xs : List α} {i : Nat} {r : α} (hr : xs[i]? = some r) : (xs.take (i + 1)).countP p = (xs.take i).countP p + (if p r = true then 1 else 0) := by
  have hi := lt_of_get hr
  rw [List.take_succ_eq_append_getElem hi, List.countP_append]
  have : xs[i] = r := by rw [List.getElem?_eq_getElem hi] at hr; injection hr
  rw [this]
  simp [List.countP_cons]
theorem countP_le' {α : Type} {p : α → Bool} {xs : List α} {i : Nat} : (xs.take i).countP p ≤ i := Nat.le_trans List.countP_le_length (by simp; omega)
def asks (p : Int) (x : App) : Bool := x.a.contains p
def bp (xs : List App) : Nat → Int × Int
  | 0 => (0, 0)
  | k + 1 => if (bp xs k).2 < (xs.countP (asks ((k : Int) + 1)) : Int) then ((k : Int) + 1, (xs.countP (asks ((k : Int) + 1)) : Int)) else bp xs k
def busyBad : List D := [.int .i64 0, .int .i64 0, .bool false]
def busyR (xs : List App) : List D := if goodA xs = true then [.int .i64 (bp xs 50).1, .int .i64 (bp xs 50).2, .bool (decide (0 < (bp xs 50).2))] else busyBad
theorem specBusy_fn (xs : List App) (hlen : xs.length ≤ 1048576) (hx : ∀ x ∈ xs, x.ok0) : Fn prog 19 [.sl false 6 (appsD xs)] (fun rs => rs = busyR xs) := by
  have hG := l24Good_fn xs hlen hx
  cases hg : goodA xs with
  | false =>
    rw [hg] at hG
    refine Fn_of' (fn := f19) (by exact func19) c19 r19 (n := 41) (by rfl) (rv := [.tmp 2, .tmp 3, .tmp 4]) (by rfl) (by simp) ?_
    unfold m19
    repeat' (first
        | (simp only [↓wA, ↓wC, wB, frzBE, frzBS, Nat.reduceEqDiff, Nat.reduceAdd, Nat.reduceSub, reduceIte, reduceCtorEq, Nat.reduceBEq, Nat.reduceLT, decide_true])
        | (refine call_det (hG) rfl rfl ?_)
        | (refine callP_det (hG) rfl rfl ?_)
        | (refine execG_split (fun h => ?_) (fun h => ?_) <;> simp only [h])
        | (refine execC_split (fun h => ?_) (fun h => ?_) <;> (try simp only [h]))
        | (refine onPick_split (fun h => ?_) (fun h => ?_) <;> (try simp only [h])))
    all_goals simp [busyR, hg, busyBad]
  | true =>
    rw [hg] at hG
    refine Fn_of' (fn := f19) (by exact func19) c19 r19 (n := 41) (by rfl) (rv := [.tmp 2, .tmp 3, .tmp 4]) (by rfl) (by simp) ?_
    unfold m19
    repeat' (first
        | (simp only [↓wA, ↓wC, wB, frzBE, frzBS, Nat.reduceEqDiff, Nat.reduceAdd, Nat.reduceSub, reduceIte, reduceCtorEq, Nat.reduceBEq, Nat.reduceLT, decide_true])
        | (refine call_det (hG) rfl rfl ?_)
        | (refine callP_det (hG) rfl rfl ?_)
        | (refine execG_split (fun h => ?_) (fun h => ?_) <;> simp only [h])
        | (refine execC_split (fun h => ?_) (fun h => ?_) <;> (try simp only [h]))
        | (refine onPick_split (fun h => ?_) (fun h => ?_) <;> (try simp only [h])))
    refine exec_range 50 (fun k : Nat => ⟨[(0, .d (.sl false 6 (appsD xs))), (5, .d (.int .i64 (bp xs k).1)), (6, .d (.int .i64 (bp xs k).2)), (7, .d (.int .i64 ((k : Int) + 1)))], []⟩) (fun _ => True) (weak_of _ rfl ⟨⟨rfl, rfl⟩, ⟨rfl, rfl⟩, ⟨rfl, rfl⟩, ⟨rfl, rfl⟩, trivial⟩) trivial ?_ ?_
    · intro k hk _ _ _
      have hd : decide ((k : Int) + 1 ≤ 50) = true := decide_eq_true (by omega)
      repeat' (first
          | (simp only [hd, ↓wA, ↓wC, wB, frzBE, frzBS, Nat.reduceEqDiff, Nat.reduceAdd, Nat.reduceSub, reduceIte, reduceCtorEq, Nat.reduceBEq, Nat.reduceLT, decide_true])
          | (refine execG_split (fun h => ?_) (fun h => ?_) <;> simp only [h])
          | (refine execC_split (fun h => ?_) (fun h => ?_) <;> (try simp only [h]))
          | (refine onPick_split (fun h => ?_) (fun h => ?_) <;> (try simp only [h])))
      refine exec_range xs.length (fun i : Nat => ⟨[(0, .d (.sl false 6 (appsD xs))), (5, .d (.int .i64 (bp xs k).1)), (6, .d (.int .i64 (bp xs k).2)), (7, .d (.int .i64 ((k : Int) + 1))), (8, .d (.int .i64 ((xs.take i).countP (asks ((k : Int) + 1)) : Nat))), (9, .d (.int .i64 i))], []⟩) (fun _ => True) (weak_of _ rfl ⟨⟨rfl, rfl⟩, ⟨rfl, rfl⟩, ⟨rfl, rfl⟩, ⟨rfl, rfl⟩, ⟨rfl, rfl⟩, ⟨rfl, rfl⟩, trivial⟩) trivial ?_ ?_
      · intro i hlt _ hdi h0
        obtain ⟨r, hr⟩ := get_lt hlt
        have hH := l1Has_fn r.a ((k : Int) + 1) (hx r (List.mem_of_getElem? hr)).1
        have hcu := countP_up (p := asks ((k : Int) + 1)) hr
        have hcl := countP_le' (p := asks ((k : Int) + 1)) (xs := xs) (i := i)
        have ha : asks ((k : Int) + 1) r = r.a.contains ((k : Int) + 1) := rfl
        cases hc : r.a.contains ((k : Int) + 1) with
        | false =>
          rw [hc] at hH
          rw [ha, hc] at hcu
          simp only [reduceIte, Nat.add_zero, Bool.false_eq_true] at hcu
          repeat' (first
              | (simp only [dl_len, dl_nth, hdi, h0, Int.toNat_natCast, hr, Option.map_some, onC_true, ↓fa_app3, ints_noOwn, ↓wA, ↓wC, wB, frzBE, frzBS, Nat.reduceEqDiff, Nat.reduceAdd, Nat.reduceSub, reduceIte, reduceCtorEq, Nat.reduceBEq, Nat.reduceLT, decide_true])
              | (refine call_det (hH) rfl rfl ?_)
              | (refine callP_det (hH) rfl rfl ?_)
              | (refine onI_bare (by simp only [InR]; omega) ?_)
              | (refine execG_split (fun h => ?_) (fun h => ?_) <;> simp only [h])
              | (refine execC_split (fun h => ?_) (fun h => ?_) <;> (try simp only [h]))
              | (refine onPick_split (fun h => ?_) (fun h => ?_) <;> (try simp only [h])))
          refine ⟨i + 1, weak_of _ rfl ⟨⟨rfl, rfl⟩, ⟨rfl, rfl⟩, ⟨rfl, rfl⟩, ⟨rfl, rfl⟩, ⟨?_, rfl⟩, ⟨rfl, rfl⟩, trivial⟩, by omega, by omega⟩
          rw [hcu]; rfl
        | true =>
          rw [hc] at hH
          rw [ha, hc] at hcu
          simp only [reduceIte, Nat.add_zero, Bool.false_eq_true] at hcu
          repeat' (first
              | (simp only [dl_len, dl_nth, hdi, h0, Int.toNat_natCast, hr, Option.map_some, onC_true, ↓fa_app3, ints_noOwn, ↓wA, ↓wC, wB, frzBE, frzBS, Nat.reduceEqDiff, Nat.reduceAdd, Nat.reduceSub, reduceIte, reduceCtorEq, Nat.reduceBEq, Nat.reduceLT, decide_true])
              | (refine call_det (hH) rfl rfl ?_)
              | (refine callP_det (hH) rfl rfl ?_)
              | (refine onI_bare (by simp only [InR]; omega) ?_)
              | (refine execG_split (fun h => ?_) (fun h => ?_) <;> simp only [h])
              | (refine execC_split (fun h => ?_) (fun h => ?_) <;> (try simp only [h]))
              | (refine onPick_split (fun h => ?_) (fun h => ?_) <;> (try simp only [h])))
          refine ⟨i + 1, weak_of _ rfl ⟨⟨rfl, rfl⟩, ⟨rfl, rfl⟩, ⟨rfl, rfl⟩, ⟨rfl, rfl⟩, ⟨?_, rfl⟩, ⟨rfl, rfl⟩, trivial⟩, by omega, by omega⟩
          rw [hcu]; rfl
      · intro _ hdi
        have hb : bp xs (k + 1) = if (bp xs k).2 < (xs.countP (asks ((k : Int) + 1)) : Int) then ((k : Int) + 1, (xs.countP (asks ((k : Int) + 1)) : Int)) else bp xs k := rfl
        have ht : (xs.take xs.length).countP (asks ((k : Int) + 1)) = xs.countP (asks ((k : Int) + 1)) := by rw [List.take_length]
        rw [ht]
        by_cases hq : (bp xs k).2 < (xs.countP (asks ((k : Int) + 1)) : Int)
        · rw [if_pos hq] at hb
          have hqd := decide_eq_true hq
          repeat' (first
              | (simp only [dl_len, hdi, hqd, ↓wA, ↓wC, wB, frzBE, frzBS, Nat.reduceEqDiff, Nat.reduceAdd, Nat.reduceSub, reduceIte, reduceCtorEq, Nat.reduceBEq, Nat.reduceLT, decide_true])
              | (refine onI_bare (by simp only [InR]; omega) ?_)
              | (refine execG_split (fun h => ?_) (fun h => ?_) <;> simp only [h])
              | (refine execC_split (fun h => ?_) (fun h => ?_) <;> (try simp only [h]))
              | (refine onPick_split (fun h => ?_) (fun h => ?_) <;> (try simp only [h])))
          refine ⟨k + 1, weak_of _ rfl ⟨⟨rfl, rfl⟩, ⟨?_, rfl⟩, ⟨?_, rfl⟩, ⟨rfl, rfl⟩, trivial⟩, by omega, by omega⟩
          all_goals (rw [hb]; rfl)
        · rw [if_neg hq] at hb
          have hqd := decide_eq_false hq
          repeat' (first
              | (simp only [dl_len, hdi, hqd, ↓wA, ↓wC, wB, frzBE, frzBS, Nat.reduceEqDiff, Nat.reduceAdd, Nat.reduceSub, reduceIte, reduceCtorEq, Nat.reduceBEq, Nat.reduceLT, decide_true])
              | (refine onI_bare (by simp only [InR]; omega) ?_)
              | (refine execG_split (fun h => ?_) (fun h => ?_) <;> simp only [h])
              | (refine execC_split (fun h => ?_) (fun h => ?_) <;> (try simp only [h]))
              | (refine onPick_split (fun h => ?_) (fun h => ?_) <;> (try simp only [h])))
          refine ⟨k + 1, weak_of _ rfl ⟨⟨rfl, rfl⟩, ⟨?_, rfl⟩, ⟨?_, rfl⟩, ⟨rfl, rfl⟩, trivial⟩, by omega, by omega⟩
          all_goals (rw [hb]; rfl)
    · intro _ _
      have hd : decide (((50 : Nat) : Int) + 1 ≤ 50) = false := by decide
      repeat' (first
          | (simp only [hd, ↓wA, ↓wC, wB, frzBE, frzBS, Nat.reduceEqDiff, Nat.reduceAdd, Nat.reduceSub, reduceIte, reduceCtorEq, Nat.reduceBEq, Nat.reduceLT, decide_true])
          | (refine execG_split (fun h => ?_) (fun h => ?_) <;> simp only [h])
          | (refine execC_split (fun h => ?_) (fun h => ?_) <;> (try simp only [h]))
          | (refine onPick_split (fun h => ?_) (fun h => ?_) <;> (try simp only [h])))
      all_goals simp [busyR, hg]
theorem busy_fn (xs : List App) (hlen : xs.length ≤ 1048576) (hx : ∀ x ∈ xs, x.ok0) : Fn prog 20 [.sl false 6 (appsD xs)] (fun rs => rs = busyR xs) := by
  have hG := areAppeals_fn xs hlen hx
  cases hg : goodA xs with
  | false =>
    rw [hg] at hG
    refine Fn_of' (fn := f20) (by exact func20) c20 r20 (n := 40) (by rfl) (rv := [.tmp 2, .tmp 3, .tmp 4]) (by rfl) (by simp) ?_
    unfold m20
    repeat' (first
        | (simp only [↓wA, ↓wC, wB, frzBE, frzBS, Nat.reduceEqDiff, Nat.reduceAdd, Nat.reduceSub, reduceIte, reduceCtorEq, Nat.reduceBEq, Nat.reduceLT, decide_true])
        | (refine call_det (hG) rfl rfl ?_)
        | (refine callP_det (hG) rfl rfl ?_)
        | (refine execG_split (fun h => ?_) (fun h => ?_) <;> simp only [h])
        | (refine execC_split (fun h => ?_) (fun h => ?_) <;> (try simp only [h]))
        | (refine onPick_split (fun h => ?_) (fun h => ?_) <;> (try simp only [h])))
    all_goals simp [busyR, hg, busyBad]
  | true =>
    rw [hg] at hG
    refine Fn_of' (fn := f20) (by exact func20) c20 r20 (n := 40) (by rfl) (rv := [.tmp 2, .tmp 3, .tmp 4]) (by rfl) (by simp) ?_
    unfold m20
    repeat' (first
        | (simp only [↓wA, ↓wC, wB, frzBE, frzBS, Nat.reduceEqDiff, Nat.reduceAdd, Nat.reduceSub, reduceIte, reduceCtorEq, Nat.reduceBEq, Nat.reduceLT, decide_true])
        | (refine call_det (hG) rfl rfl ?_)
        | (refine callP_det (hG) rfl rfl ?_)
        | (refine execG_split (fun h => ?_) (fun h => ?_) <;> simp only [h])
        | (refine execC_split (fun h => ?_) (fun h => ?_) <;> (try simp only [h]))
        | (refine onPick_split (fun h => ?_) (fun h => ?_) <;> (try simp only [h])))
    refine exec_range 50 (fun k : Nat => ⟨[(0, .d (.sl false 6 (appsD xs))), (5, .d (.int .i64 (bp xs k).1)), (6, .d (.int .i64 (bp xs k).2)), (7, .d (.int .i64 ((k : Int) + 1)))], []⟩) (fun _ => True) (weak_of _ rfl ⟨⟨rfl, rfl⟩, ⟨rfl, rfl⟩, ⟨rfl, rfl⟩, ⟨rfl, rfl⟩, trivial⟩) trivial ?_ ?_
    · intro k hk _ _ _
      have hd : decide ((k : Int) + 1 ≤ 50) = true := decide_eq_true (by omega)
      repeat' (first
          | (simp only [hd, dl_len, ↓wA, ↓wC, wB, frzBE, frzBS, Nat.reduceEqDiff, Nat.reduceAdd, Nat.reduceSub, reduceIte, reduceCtorEq, Nat.reduceBEq, Nat.reduceLT, decide_true])
          | (refine execG_split (fun h => ?_) (fun h => ?_) <;> simp only [h])
          | (refine execC_split (fun h => ?_) (fun h => ?_) <;> (try simp only [h]))
          | (refine onPick_split (fun h => ?_) (fun h => ?_) <;> (try simp only [h])))
      refine exec_range xs.length (fun i : Nat => ⟨[(0, .d (.sl false 6 (appsD xs))), (5, .d (.int .i64 (bp xs k).1)), (6, .d (.int .i64 (bp xs k).2)), (7, .d (.int .i64 ((k : Int) + 1))), (8, .d (.int .i64 ((xs.take i).countP (asks ((k : Int) + 1)) : Nat))), (18, .d (.sl false 6 (appsD xs))), (19, .d (.int .i64 xs.length)), (20, .d (.int .i64 i))], []⟩) (fun _ => True) (weak_of _ rfl ⟨⟨rfl, rfl⟩, ⟨rfl, rfl⟩, ⟨rfl, rfl⟩, ⟨rfl, rfl⟩, ⟨rfl, rfl⟩, ⟨rfl, rfl⟩, ⟨rfl, rfl⟩, ⟨rfl, rfl⟩, trivial⟩) trivial ?_ ?_
      · intro i hlt _ hdi h0
        obtain ⟨r, hr⟩ := get_lt hlt
        have hH := containsI_fn r.a ((k : Int) + 1) (hx r (List.mem_of_getElem? hr)).1
        have hcu := countP_up (p := asks ((k : Int) + 1)) hr
        have hcl := countP_le' (p := asks ((k : Int) + 1)) (xs := xs) (i := i)
        have ha : asks ((k : Int) + 1) r = r.a.contains ((k : Int) + 1) := rfl
        cases hc : r.a.contains ((k : Int) + 1) with
        | false =>
          rw [hc] at hH
          rw [ha, hc] at hcu
          simp only [reduceIte, Nat.add_zero, Bool.false_eq_true] at hcu
          repeat' (first
              | (simp only [dl_len, dl_nth, hdi, h0, Int.toNat_natCast, hr, Option.map_some, onC_true, ↓rd_app, oa_size, oa_isV, App.noOwn, App.d', ints_noOwn, ↓wA, ↓wC, wB, frzBE, frzBS, Nat.reduceEqDiff, Nat.reduceAdd, Nat.reduceSub, reduceIte, reduceCtorEq, Nat.reduceBEq, Nat.reduceLT, decide_true])
              | (refine call_det (hH) rfl rfl ?_)
              | (refine callP_det (hH) rfl rfl ?_)
              | (refine onI_bare (by simp only [InR]; omega) ?_)
              | (refine execG_split (fun h => ?_) (fun h => ?_) <;> simp only [h])
              | (refine execC_split (fun h => ?_) (fun h => ?_) <;> (try simp only [h]))
              | (refine onPick_split (fun h => ?_) (fun h => ?_) <;> (try simp only [h])))
          refine ⟨i + 1, weak_of _ rfl ⟨⟨rfl, rfl⟩, ⟨rfl, rfl⟩, ⟨rfl, rfl⟩, ⟨rfl, rfl⟩, ⟨?_, rfl⟩, ⟨rfl, rfl⟩, ⟨rfl, rfl⟩, ⟨rfl, rfl⟩, trivial⟩, by omega, by omega⟩
          rw [hcu]; rfl
        | true =>
          rw [hc] at hH
          rw [ha, hc] at hcu
          simp only [reduceIte, Nat.add_zero, Bool.false_eq_true] at hcu
          repeat' (first
              | (simp only [dl_len, dl_nth, hdi, h0, Int.toNat_natCast, hr, Option.map_some, onC_true, ↓rd_app, oa_size, oa_isV, App.noOwn, App.d', ints_noOwn, ↓wA, ↓wC, wB, frzBE, frzBS, Nat.reduceEqDiff, Nat.reduceAdd, Nat.reduceSub, reduceIte, reduceCtorEq, Nat.reduceBEq, Nat.reduceLT, decide_true])
              | (refine call_det (hH) rfl rfl ?_)
              | (refine callP_det (hH) rfl rfl ?_)
              | (refine onI_bare (by simp only [InR]; omega) ?_)
              | (refine execG_split (fun h => ?_) (fun h => ?_) <;> simp only [h])
              | (refine execC_split (fun h => ?_) (fun h => ?_) <;> (try simp only [h]))
              | (refine onPick_split (fun h => ?_) (fun h => ?_) <;> (try simp only [h])))
          refine ⟨i + 1, weak_of _ rfl ⟨⟨rfl, rfl⟩, ⟨rfl, rfl⟩, ⟨rfl, rfl⟩, ⟨rfl, rfl⟩, ⟨?_, rfl⟩, ⟨rfl, rfl⟩, ⟨rfl, rfl⟩, ⟨rfl, rfl⟩, trivial⟩, by omega, by omega⟩
          rw [hcu]; rfl
      · intro _ hdi
        have hb : bp xs (k + 1) = if (bp xs k).2 < (xs.countP (asks ((k : Int) + 1)) : Int) then ((k : Int) + 1, (xs.countP (asks ((k : Int) + 1)) : Int)) else bp xs k := rfl
        have ht : (xs.take xs.length).countP (asks ((k : Int) + 1)) = xs.countP (asks ((k : Int) + 1)) := by rw [List.take_length]
        rw [ht]
        by_cases hq : (bp xs k).2 < (xs.countP (asks ((k : Int) + 1)) : Int)
        · rw [if_pos hq] at hb
          have hqd := decide_eq_true hq
          repeat' (first
              | (simp only [dl_len, hdi, hqd, ↓wA, ↓wC, wB, frzBE, frzBS, Nat.reduceEqDiff, Nat.reduceAdd, Nat.reduceSub, reduceIte, reduceCtorEq, Nat.reduceBEq, Nat.reduceLT, decide_true])
              | (refine onI_bare (by simp only [InR]; omega) ?_)
              | (refine execG_split (fun h => ?_) (fun h => ?_) <;> simp only [h])
              | (refine execC_split (fun h => ?_) (fun h => ?_) <;> (try simp only [h]))
              | (refine onPick_split (fun h => ?_) (fun h => ?_) <;> (try simp only [h])))
          refine ⟨k + 1, weak_of _ rfl ⟨⟨rfl, rfl⟩, ⟨?_, rfl⟩, ⟨?_, rfl⟩, ⟨rfl, rfl⟩, trivial⟩, by omega, by omega⟩
          all_goals (rw [hb]; rfl)
        · rw [if_neg hq] at hb
          have hqd := decide_eq_false hq
          repeat' (first
              | (simp only [dl_len, hdi, hqd, ↓wA, ↓wC, wB, frzBE, frzBS, Nat.reduceEqDiff, Nat.reduceAdd, Nat.reduceSub, reduceIte, reduceCtorEq, Nat.reduceBEq, Nat.reduceLT, decide_true])
              | (refine onI_bare (by simp only [InR]; omega) ?_)
              | (refine execG_split (fun h => ?_) (fun h => ?_) <;> simp only [h])
              | (refine execC_split (fun h => ?_) (fun h => ?_) <;> (try simp only [h]))
              | (refine onPick_split (fun h => ?_) (fun h => ?_) <;> (try simp only [h])))
          refine ⟨k + 1, weak_of _ rfl ⟨⟨rfl, rfl⟩, ⟨?_, rfl⟩, ⟨?_, rfl⟩, ⟨rfl, rfl⟩, trivial⟩, by omega, by omega⟩
          all_goals (rw [hb]; rfl)
    · intro _ _
      have hd : decide (((50 : Nat) : Int) + 1 ≤ 50) = false := by decide
      repeat' (first
          | (simp only [hd, ↓wA, ↓wC, wB, frzBE, frzBS, Nat.reduceEqDiff, Nat.reduceAdd, Nat.reduceSub, reduceIte, reduceCtorEq, Nat.reduceBEq, Nat.reduceLT, decide_true])
          | (refine execG_split (fun h => ?_) (fun h => ?_) <;> simp only [h])
          | (refine execC_split (fun h => ?_) (fun h => ?_) <;> (try simp only [h]))
          | (refine onPick_split (fun h => ?_) (fun h => ?_) <;> (try simp only [h])))
      all_goals simp [busyR, hg]
theorem busyR_form (xs : List App) : ∃ a b c, busyR xs = [.int .i64 a, .int .i64 b, .bool c] := by
  unfold busyR busyBad
  split
  · exact ⟨_, _, _, rfl⟩
  · exact ⟨_, _, _, rfl⟩
end Go.Pe.Try
