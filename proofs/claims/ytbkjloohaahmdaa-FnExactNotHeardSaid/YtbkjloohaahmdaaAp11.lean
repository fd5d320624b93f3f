/- The place of an appeal; how many days it has left, walked. -/
import Derived.Test.YtbkjloohaahmdaaApL1
import Derived.Test.YtbkjloohaahmdaaGc1
set_option maxRecDepth 100000
set_option maxHeartbeats 4000000
set_option linter.all false
namespace Go.Pe.Try
open Go.Proofs.Try
def findA (xs : List App) (id : Int) : Int := idxOf (fun x : App => decide (x.i = id)) xs
theorem atClo_fn (x : App) (id : Int) : Fn prog 120 [x.d', .ptr (.int .i64 id)] (fun rs => rs = [.bool (decide (x.i = id))]) := by
  refine Fn_of' (fn := f120) (by exact func120) c120 r120 (n := 8) (by rfl) (rv := [.tmp 3]) (by rfl) (by simp) ?_
  unfold m120
  simp only [App.d']
  repeat' (first
      | (simp only [ints_noOwn, onC_true, ↓wA, ↓wC, wB, frzBE, frzBS, Nat.reduceEqDiff, Nat.reduceAdd, Nat.reduceSub, reduceIte, reduceCtorEq, Nat.reduceBEq, Nat.reduceLT, decide_true])
      | (refine execG_split (fun h => ?_) (fun h => ?_) <;> simp only [h])
      | (refine execC_split (fun h => ?_) (fun h => ?_) <;> (try simp only [h]))
      | (refine onPick_split (fun h => ?_) (fun h => ?_) <;> (try simp only [h])))
theorem appealAt_fn (xs : List App) (id : Int) (hlen : xs.length ≤ 1048576) : Fn prog 66 [.sl false 6 (appsD xs), .int .i64 id] (fun rs => rs = [.int .i64 (findA xs id)]) := by
  have h := indexFuncA_fn (fun x => decide (x.i = id)) 120 (.cons (.ptr (.int .i64 id)) .nil) xs rfl en120 hlen (fun x _ => atClo_fn x id)
  refine Fn_ofg (ps := [[1, 0]]) (fn := f66) (by exact func66) c66 r66 (n := 8) (by rfl) (rv := [.tmp 4]) (by rfl) (by simp) ?_
  unfold m66
  simp only [ghAll, ghAt]
  simp only [↓wA, ↓wC, wB, frzBE, frzBS, Nat.reduceEqDiff, Nat.reduceAdd, Nat.reduceSub, reduceIte, reduceCtorEq, Nat.reduceBEq, Nat.reduceLT, decide_true]
  refine exec_gh1 (frzB 0 rfl) ?_
  repeat' (first
      | (simp only [↓wA, ↓wC, wB, frzBE, frzBS, Nat.reduceEqDiff, Nat.reduceAdd, Nat.reduceSub, reduceIte, reduceCtorEq, Nat.reduceBEq, Nat.reduceLT, decide_true])
      | (refine call_det (h) rfl rfl ?_)
      | (refine callP_det (h) rfl rfl ?_)
      | (refine execG_split (fun h => ?_) (fun h => ?_) <;> simp only [h])
      | (refine execC_split (fun h => ?_) (fun h => ?_) <;> (try simp only [h]))
      | (refine onPick_split (fun h => ?_) (fun h => ?_) <;> (try simp only [h])))
  all_goals rfl
theorem l24Find_fn (xs : List App) (id : Int) (hlen : xs.length ≤ 1048576) : Fn prog 62 [.sl false 6 (appsD xs), .int .i64 id] (fun rs => rs = [.int .i64 (findA xs id)]) := by
  refine Fn_of' (fn := f62) (by exact func62) c62 r62 (n := 20) (by rfl) (rv := [.tmp 4]) (by rfl) (by simp) ?_
  unfold m62
  simp only [↓wA, ↓wC, wB, frzBE, frzBS, Nat.reduceEqDiff, Nat.reduceAdd, Nat.reduceSub, reduceIte, reduceCtorEq, Nat.reduceBEq, Nat.reduceLT, decide_true]
  refine exec_range xs.length (fun i : Nat => ⟨[(0, .d (.sl false 6 (appsD xs))), (1, .d (.int .i64 id)), (5, .d (.int .i64 i))], []⟩) (fun i => ∀ j r, j < i → xs[j]? = some r → decide (r.i = id) = false) (weak_of _ rfl ⟨⟨rfl, rfl⟩, ⟨rfl, rfl⟩, ⟨rfl, rfl⟩, trivial⟩) (fun j r hj => by omega) ?_ ?_
  · intro i hlt hinv hd h0
    obtain ⟨r, hr⟩ := get_lt hlt
    repeat' (first
        | (simp only [dl_len, dl_nth, hd, h0, Int.toNat_natCast, hr, Option.map_some, onC_true, ↓fa_app0, ↓wA, ↓wC, wB, frzBE, frzBS, Nat.reduceEqDiff, Nat.reduceAdd, Nat.reduceSub, reduceIte, reduceCtorEq, Nat.reduceBEq, Nat.reduceLT, decide_true])
        | (refine onI_bare (by simp only [InR]; omega) ?_)
        | (refine execG_split (fun h => ?_) (fun h => ?_) <;> simp only [h])
        | (refine execC_split (fun h => ?_) (fun h => ?_) <;> (try simp only [h]))
        | (refine onPick_split (fun h => ?_) (fun h => ?_) <;> (try simp only [h])))
    · rw [findA, idxOf_hit hr h hinv]
    · refine next_range (weak_of _ rfl ⟨⟨rfl, rfl⟩, ⟨rfl, rfl⟩, ⟨rfl, rfl⟩, trivial⟩) hlt fun j s hj hs => ?_
      by_cases e : j = i
      · subst e; rw [hr] at hs; injection hs with hs; rw [← hs]; exact h
      · exact hinv j s (by omega) hs
  · intro hinv hd
    repeat' (first
        | (simp only [dl_len, hd, ↓wA, ↓wC, wB, frzBE, frzBS, Nat.reduceEqDiff, Nat.reduceAdd, Nat.reduceSub, reduceIte, reduceCtorEq, Nat.reduceBEq, Nat.reduceLT, decide_true])
        | (refine execG_split (fun h => ?_) (fun h => ?_) <;> simp only [h])
        | (refine execC_split (fun h => ?_) (fun h => ?_) <;> (try simp only [h]))
        | (refine onPick_split (fun h => ?_) (fun h => ?_) <;> (try simp only [h])))
    all_goals rw [findA, idxOf_none fun j r hj => hinv j r (lt_of_get hj) hj]
theorem goodA_ok {xs : List App} (h : goodA xs = true) : xs.length ≤ 10 ∧ (∀ j, j < xs.length → stepA xs j = true) ∧ ∀ x ∈ xs, okA x = true := by
  simp only [goodA, Bool.and_eq_true, List.all_eq_true, List.mem_range, decide_eq_true_eq] at h
  refine ⟨by omega, h.2, fun x hx => ?_⟩
  obtain ⟨j, hj⟩ := List.getElem?_of_mem hx
  exact stepA_ok hj (h.2 j (lt_of_get hj))
theorem within_iff {n a b : Int} : within n a b = true ↔ a ≤ n ∧ n ≤ b := by
  simp [within]
theorem okA_parts {x : App} (h : okA x = true) : (1 ≤ x.i ∧ x.i ≤ 999) ∧ (1 ≤ x.q ∧ x.q ≤ 999) ∧ (0 ≤ x.d ∧ x.d ≤ 20000) ∧ (0 ≤ x.s ∧ x.s ≤ 4) ∧ x.a.length ≤ 6 ∧ rises x.a = true ∧ rises x.h = true ∧ (∀ n ∈ x.a, 1 ≤ n ∧ n ≤ 50) ∧ (∀ n ∈ x.h, n ∈ x.a) := by
  simp only [okA, Bool.and_eq_true, within_iff, List.all_eq_true, Bool.not_eq_true', decide_eq_false_iff_not, List.contains_iff_mem] at h
  obtain ⟨⟨⟨⟨⟨⟨⟨⟨⟨h1, h2⟩, h3⟩, h4⟩, h5⟩, h6⟩, h7⟩, h8⟩, h9⟩, _⟩ := h
  exact ⟨h1, h2, h3, h4, by omega, h6, h7, h8, h9⟩
theorem areDays_fn (a b : Int) : Fn prog 99 [.int .i64 a, .int .i64 b] (fun rs => rs = [.bool (within a 0 20000 && within b 0 20000 && decide (a ≤ b))]) := by
  refine Fn_of' (fn := f99) (by exact func99) c99 r99 (n := 16) (by rfl) (rv := [.tmp 4]) (by rfl) (by simp) ?_
  unfold m99
  repeat' (first
      | (simp only [↓wA, ↓wC, wB, frzBE, frzBS, Nat.reduceEqDiff, Nat.reduceAdd, Nat.reduceSub, reduceIte, reduceCtorEq, Nat.reduceBEq, Nat.reduceLT, decide_true])
      | (refine call_det (isDay_fn _) rfl rfl ?_)
      | (refine callP_det (isDay_fn _) rfl rfl ?_)
      | (refine execG_split (fun h => ?_) (fun h => ?_) <;> simp only [h])
      | (refine execC_split (fun h => ?_) (fun h => ?_) <;> (try simp only [h]))
      | (refine onPick_split (fun h => ?_) (fun h => ?_) <;> (try simp only [h])))
  all_goals simp_all
def dlOK (xs : List App) (x : App) (day : Int) : Bool := goodA xs && decide (x.s = 0) && within day 0 20000 && decide (x.d ≤ day)
def daysBad : List D := [.int .i64 0, .bool false]
def daysR (xs : List App) (id day : Int) : List D := match xs[(findA xs id).toNat]? with
  | some x => if (decide (0 ≤ findA xs id) && dlOK xs x day) = true then [.int .i64 (max (60 - (day - x.d)) 0), .bool true] else daysBad
  | none => daysBad
theorem find_cases (xs : List App) (id : Int) : (decide (findA xs id < 0) = true ∧ decide (0 ≤ findA xs id) = false) ∨ ∃ (i : Nat) (x : App), findA xs id = (i : Int) ∧ xs[i]? = some x ∧ x.i = id := by
  by_cases h : 0 ≤ findA xs id
  · obtain ⟨i, x, h1, h2, h3⟩ := idxOf_ge h
    exact .inr ⟨i, x, h1, h2, by simpa using h3⟩
  · exact .inl ⟨decide_eq_true (by omega), decide_eq_false h⟩
theorem daysR_neg {xs : List App} {id day : Int} (h : decide (0 ≤ findA xs id) = false) : daysR xs id day = daysBad := by
  unfold daysR
  rw [h]
  split <;> simp
theorem daysR_at {xs : List App} {id day : Int} {i : Nat} {x : App} (h : findA xs id = (i : Int)) (hr : xs[i]? = some x) : daysR xs id day = if dlOK xs x day = true then [.int .i64 (max (60 - (day - x.d)) 0), .bool true] else daysBad := by
  unfold daysR
  rw [h, Int.toNat_natCast, hr]
  simp
theorem daysLeft_fn (xs : List App) (id day : Int) (hlen : xs.length ≤ 1048576) (hx : ∀ x ∈ xs, x.ok0) : Fn prog 40 [.sl false 6 (appsD xs), .int .i64 id, .int .i64 day] (fun rs => rs = daysR xs id day) := by
  have hF := appealAt_fn xs id hlen
  have hG := areAppeals_fn xs hlen hx
  rcases find_cases xs id with ⟨hn, hn'⟩ | ⟨i, x, hi, hr, _⟩
  · rw [daysR_neg hn']
    refine Fn_of' (fn := f40) (by exact func40) c40 r40 (n := 46) (by rfl) (rv := [.tmp 6, .tmp 7]) (by rfl) (by simp) ?_
    unfold m40
    repeat' (first
        | (simp only [hn, ↓wA, ↓wC, wB, frzBE, frzBS, Nat.reduceEqDiff, Nat.reduceAdd, Nat.reduceSub, reduceIte, reduceCtorEq, Nat.reduceBEq, Nat.reduceLT, decide_true])
        | (refine call_det (hF) rfl rfl ?_)
        | (refine callP_det (hF) rfl rfl ?_)
        | (refine call_det (hG) rfl rfl ?_)
        | (refine callP_det (hG) rfl rfl ?_)
        | (refine execG_split (fun h => ?_) (fun h => ?_) <;> simp only [h])
        | (refine execC_split (fun h => ?_) (fun h => ?_) <;> (try simp only [h]))
        | (refine onPick_split (fun h => ?_) (fun h => ?_) <;> (try simp only [h])))
    all_goals rfl
  · rw [daysR_at hi hr]
    rw [hi] at hF
    have h0 : (0 : Int) ≤ (i : Int) := by omega
    have hn : decide ((i : Int) < 0) = false := decide_eq_false (by omega)
    have hd := areDays_fn x.d day
    cases hg : goodA xs with
    | false =>
      rw [hg] at hG
      refine Fn_of' (fn := f40) (by exact func40) c40 r40 (n := 46) (by rfl) (rv := [.tmp 6, .tmp 7]) (by rfl) (by simp) ?_
      unfold m40
      repeat' (first
          | (simp only [hn, ↓wA, ↓wC, wB, frzBE, frzBS, Nat.reduceEqDiff, Nat.reduceAdd, Nat.reduceSub, reduceIte, reduceCtorEq, Nat.reduceBEq, Nat.reduceLT, decide_true])
          | (refine call_det (hF) rfl rfl ?_)
          | (refine callP_det (hF) rfl rfl ?_)
          | (refine call_det (hG) rfl rfl ?_)
          | (refine callP_det (hG) rfl rfl ?_)
          | (refine execG_split (fun h => ?_) (fun h => ?_) <;> simp only [h])
          | (refine execC_split (fun h => ?_) (fun h => ?_) <;> (try simp only [h]))
          | (refine onPick_split (fun h => ?_) (fun h => ?_) <;> (try simp only [h])))
      all_goals simp [dlOK, hg, daysBad]
    | true =>
      rw [hg] at hG
      have hx1 := okA_parts ((goodA_ok hg).2.2 x (List.mem_of_getElem? hr))
      have hxd : within x.d 0 20000 = true := within_iff.2 hx1.2.2.1
      rw [hxd, Bool.true_and] at hd
      cases hc : (within day 0 20000 && decide (x.d ≤ day)) with
      | false =>
        rw [hc] at hd
        refine Fn_of' (fn := f40) (by exact func40) c40 r40 (n := 46) (by rfl) (rv := [.tmp 6, .tmp 7]) (by rfl) (by simp) ?_
        unfold m40
        repeat' (first
            | (simp only [hn, h0, dl_nth, Int.toNat_natCast, hr, Option.map_some, onC_true, ↓fa_app5, ↓fa_app2, ↓wA, ↓wC, wB, frzBE, frzBS, Nat.reduceEqDiff, Nat.reduceAdd, Nat.reduceSub, reduceIte, reduceCtorEq, Nat.reduceBEq, Nat.reduceLT, decide_true])
            | (refine call_det (hF) rfl rfl ?_)
            | (refine callP_det (hF) rfl rfl ?_)
            | (refine call_det (hG) rfl rfl ?_)
            | (refine callP_det (hG) rfl rfl ?_)
            | (refine call_det (hd) rfl rfl ?_)
            | (refine callP_det (hd) rfl rfl ?_)
            | (refine execG_split (fun h => ?_) (fun h => ?_) <;> simp only [h])
            | (refine execC_split (fun h => ?_) (fun h => ?_) <;> (try simp only [h]))
            | (refine onPick_split (fun h => ?_) (fun h => ?_) <;> (try simp only [h])))
        all_goals simp_all [dlOK, daysBad]
      | true =>
        rw [hc] at hd
        rw [Bool.and_eq_true, within_iff, decide_eq_true_eq] at hc
        obtain ⟨⟨hc1, hc2⟩, hc3⟩ := hc
        have hx3 := hx1.2.2.1
        refine Fn_of' (fn := f40) (by exact func40) c40 r40 (n := 46) (by rfl) (rv := [.tmp 6, .tmp 7]) (by rfl) (by simp) ?_
        unfold m40
        repeat' (first
            | (simp only [hn, h0, dl_nth, Int.toNat_natCast, hr, Option.map_some, onC_true, ↓fa_app5, ↓fa_app2, ↓wA, ↓wC, wB, frzBE, frzBS, Nat.reduceEqDiff, Nat.reduceAdd, Nat.reduceSub, reduceIte, reduceCtorEq, Nat.reduceBEq, Nat.reduceLT, decide_true])
            | (refine call_det (hF) rfl rfl ?_)
            | (refine callP_det (hF) rfl rfl ?_)
            | (refine call_det (hG) rfl rfl ?_)
            | (refine callP_det (hG) rfl rfl ?_)
            | (refine call_det (hd) rfl rfl ?_)
            | (refine callP_det (hd) rfl rfl ?_)
            | (refine onI_bare (by simp only [InR]; omega) ?_)
            | (refine execG_split (fun h => ?_) (fun h => ?_) <;> simp only [h])
            | (refine execC_split (fun h => ?_) (fun h => ?_) <;> (try simp only [h]))
            | (refine onPick_split (fun h => ?_) (fun h => ?_) <;> (try simp only [h])))
        all_goals simp_all [dlOK, daysBad, within]
theorem specDaysLeft_fn (xs : List App) (id day : Int) (hlen : xs.length ≤ 1048576) (hx : ∀ x ∈ xs, x.ok0) : Fn prog 41 [.sl false 6 (appsD xs), .int .i64 id, .int .i64 day] (fun rs => rs = daysR xs id day) := by
  have hF := l24Find_fn xs id hlen
  have hG := l24Good_fn xs hlen hx
  rcases find_cases xs id with ⟨hn, hn'⟩ | ⟨i, x, hi, hr, _⟩
  · rw [daysR_neg hn']
    refine Fn_of' (fn := f41) (by exact func41) c41 r41 (n := 50) (by rfl) (rv := [.tmp 6, .tmp 7]) (by rfl) (by simp) ?_
    unfold m41
    repeat' (first
        | (simp only [hn, ↓wA, ↓wC, wB, frzBE, frzBS, Nat.reduceEqDiff, Nat.reduceAdd, Nat.reduceSub, reduceIte, reduceCtorEq, Nat.reduceBEq, Nat.reduceLT, decide_true])
        | (refine call_det (hF) rfl rfl ?_)
        | (refine callP_det (hF) rfl rfl ?_)
        | (refine call_det (hG) rfl rfl ?_)
        | (refine callP_det (hG) rfl rfl ?_)
        | (refine execG_split (fun h => ?_) (fun h => ?_) <;> simp only [h])
        | (refine execC_split (fun h => ?_) (fun h => ?_) <;> (try simp only [h]))
        | (refine onPick_split (fun h => ?_) (fun h => ?_) <;> (try simp only [h])))
    all_goals rfl
  · rw [daysR_at hi hr]
    rw [hi] at hF
    have h0 : (0 : Int) ≤ (i : Int) := by omega
    have hn : decide ((i : Int) < 0) = false := decide_eq_false (by omega)
    have hd := l2Day_fn day
    cases hg : goodA xs with
    | false =>
      rw [hg] at hG
      refine Fn_of' (fn := f41) (by exact func41) c41 r41 (n := 50) (by rfl) (rv := [.tmp 6, .tmp 7]) (by rfl) (by simp) ?_
      unfold m41
      repeat' (first
          | (simp only [hn, ↓wA, ↓wC, wB, frzBE, frzBS, Nat.reduceEqDiff, Nat.reduceAdd, Nat.reduceSub, reduceIte, reduceCtorEq, Nat.reduceBEq, Nat.reduceLT, decide_true])
          | (refine call_det (hF) rfl rfl ?_)
          | (refine callP_det (hF) rfl rfl ?_)
          | (refine call_det (hG) rfl rfl ?_)
          | (refine callP_det (hG) rfl rfl ?_)
          | (refine execG_split (fun h => ?_) (fun h => ?_) <;> simp only [h])
          | (refine execC_split (fun h => ?_) (fun h => ?_) <;> (try simp only [h]))
          | (refine onPick_split (fun h => ?_) (fun h => ?_) <;> (try simp only [h])))
      all_goals simp [dlOK, hg, daysBad]
    | true =>
      rw [hg] at hG
      have hx1 := okA_parts ((goodA_ok hg).2.2 x (List.mem_of_getElem? hr))
      have hx3 := hx1.2.2.1
      cases hc : within day 0 20000 with
      | false =>
        rw [hc] at hd
        refine Fn_of' (fn := f41) (by exact func41) c41 r41 (n := 50) (by rfl) (rv := [.tmp 6, .tmp 7]) (by rfl) (by simp) ?_
        unfold m41
        repeat' (first
            | (simp only [hn, h0, dl_nth, Int.toNat_natCast, hr, Option.map_some, onC_true, ↓fa_app5, ↓fa_app2, ↓wA, ↓wC, wB, frzBE, frzBS, Nat.reduceEqDiff, Nat.reduceAdd, Nat.reduceSub, reduceIte, reduceCtorEq, Nat.reduceBEq, Nat.reduceLT, decide_true])
            | (refine call_det (hF) rfl rfl ?_)
            | (refine callP_det (hF) rfl rfl ?_)
            | (refine call_det (hG) rfl rfl ?_)
            | (refine callP_det (hG) rfl rfl ?_)
            | (refine call_det (hd) rfl rfl ?_)
            | (refine callP_det (hd) rfl rfl ?_)
            | (refine execG_split (fun h => ?_) (fun h => ?_) <;> simp only [h])
            | (refine execC_split (fun h => ?_) (fun h => ?_) <;> (try simp only [h]))
            | (refine onPick_split (fun h => ?_) (fun h => ?_) <;> (try simp only [h])))
        all_goals simp_all [dlOK, daysBad]
      | true =>
        rw [hc] at hd
        have hc1 := within_iff.1 hc
        have hmx : (if 60 - day + x.d < 0 then (0 : Int) else 60 - day + x.d) = max (60 - (day - x.d)) 0 := by
          rw [show 60 - (day - x.d) = 60 - day + x.d by omega]
          split <;> omega
        have hM := l1Most_fn 0 (60 - day + x.d)
        rw [hmx] at hM
        refine Fn_of' (fn := f41) (by exact func41) c41 r41 (n := 50) (by rfl) (rv := [.tmp 6, .tmp 7]) (by rfl) (by simp) ?_
        unfold m41
        repeat' (first
            | (simp only [hn, h0, dl_nth, Int.toNat_natCast, hr, Option.map_some, onC_true, ↓fa_app5, ↓fa_app2, ↓wA, ↓wC, wB, frzBE, frzBS, Nat.reduceEqDiff, Nat.reduceAdd, Nat.reduceSub, reduceIte, reduceCtorEq, Nat.reduceBEq, Nat.reduceLT, decide_true])
            | (refine call_det (hF) rfl rfl ?_)
            | (refine callP_det (hF) rfl rfl ?_)
            | (refine call_det (hG) rfl rfl ?_)
            | (refine callP_det (hG) rfl rfl ?_)
            | (refine call_det (hd) rfl rfl ?_)
            | (refine callP_det (hd) rfl rfl ?_)
            | (refine call_det (hM) rfl rfl ?_)
            | (refine callP_det (hM) rfl rfl ?_)
            | (refine onI_bare (by simp only [InR]; omega) ?_)
            | (refine execG_split (fun h => ?_) (fun h => ?_) <;> simp only [h])
            | (refine execC_split (fun h => ?_) (fun h => ?_) <;> (try simp only [h]))
            | (refine onPick_split (fun h => ?_) (fun h => ?_) <;> (try simp only [h])))
        all_goals simp_all [dlOK, daysBad, within]
        all_goals (intros; omega)
end Go.Pe.Try
