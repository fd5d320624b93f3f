/- Lapsed appeals as the reference has them, walked. -/
import Derived.Test.YtfndpmdjidenpaaAp19
set_option maxRecDepth 100000
set_option maxHeartbeats 4000000
set_option linter.all false
namespace Go.Pe.Try
open Go.Proofs.Try
theorem specLapse_fn (xs : List App) (day : Int) (hlen : xs.length ≤ 1048576) (hx : ∀ x ∈ xs, x.ok0) : Fn prog 29 [.sl false 6 (appsD xs), .int .i64 day] (fun rs => rs = lapR App.d' xs day) := by
  have hG := l24Good_fn xs hlen hx
  have hD := l2Day_fn day
  have hC := l24Own_fn xs hlen hx
  unfold lapR
  cases hg : goodA xs with
  | false =>
    rw [hg] at hG
    refine Fn_of' (fn := f29) (by exact func29) c29 r29 (n := 56) (by rfl) (rv := [.tmp 4, .tmp 5, .tmp 6]) (by rfl) (by simp) ?_
    unfold m29
    repeat' (first
        | (simp only [↓wA, ↓wC, wB, frzBE, frzBS, Nat.reduceEqDiff, Nat.reduceAdd, Nat.reduceSub, reduceIte, reduceCtorEq, Nat.reduceBEq, Nat.reduceLT, decide_true])
        | (refine call_det (hG) rfl rfl ?_)
        | (refine callP_det (hG) rfl rfl ?_)
        | (refine call_det (hD) rfl rfl ?_)
        | (refine callP_det (hD) rfl rfl ?_)
        | (refine execG_split (fun h => ?_) (fun h => ?_) <;> simp only [h])
        | (refine execC_split (fun h => ?_) (fun h => ?_) <;> (try simp only [h]))
        | (refine onPick_split (fun h => ?_) (fun h => ?_) <;> (try simp only [h])))
    all_goals rfl
  | true =>
    rw [hg] at hG
    cases hdy : within day 0 20000 with
    | false =>
      rw [hdy] at hD
      refine Fn_of' (fn := f29) (by exact func29) c29 r29 (n := 56) (by rfl) (rv := [.tmp 4, .tmp 5, .tmp 6]) (by rfl) (by simp) ?_
      unfold m29
      repeat' (first
          | (simp only [↓wA, ↓wC, wB, frzBE, frzBS, Nat.reduceEqDiff, Nat.reduceAdd, Nat.reduceSub, reduceIte, reduceCtorEq, Nat.reduceBEq, Nat.reduceLT, decide_true])
          | (refine call_det (hG) rfl rfl ?_)
          | (refine callP_det (hG) rfl rfl ?_)
          | (refine call_det (hD) rfl rfl ?_)
          | (refine callP_det (hD) rfl rfl ?_)
          | (refine execG_split (fun h => ?_) (fun h => ?_) <;> simp only [h])
          | (refine execC_split (fun h => ?_) (fun h => ?_) <;> (try simp only [h]))
          | (refine onPick_split (fun h => ?_) (fun h => ?_) <;> (try simp only [h])))
      all_goals rfl
    | true =>
      rw [hdy] at hD
      have hdb := within_iff.1 hdy
      have hok := goodA_ok hg
      have hdo5 : ∀ y : App, doff [5] y.d' = 5 := fun y => by simp [App.d', doff, D.pre, D.nth, D.size]
      have hdo2 : ∀ y : App, doff [2] y.d' = 2 := fun y => by simp [App.d', doff, D.pre, D.nth, D.size]
      have hdo0 : ∀ y : App, doff [0] y.d' = 0 := fun y => by simp [App.d', doff, D.pre, D.nth, D.size]
      have hdg5 : ∀ y : App, dget [5] y.d' = some (.int .i64 y.s) := fun y => rfl
      have hdg2 : ∀ y : App, dget [2] y.d' = some (.int .i64 y.d) := fun y => rfl
      have hdg0 : ∀ y : App, dget [0] y.d' = some (.int .i64 y.i) := fun y => rfl
      have hds5 : ∀ (y : App) (k : Int), dset [5] y.d' (.int .i64 k) = App.d' { y with s := k } := fun y k => rfl
      refine Fn_of' (fn := f29) (by exact func29) c29 r29 (n := 56) (by rfl) (rv := [.tmp 4, .tmp 5, .tmp 6]) (by rfl) (by simp) ?_
      unfold m29
      repeat' (first
          | (simp only [dl_len, ↓wA, ↓wC, wB, frzBE, frzBS, Nat.reduceEqDiff, Nat.reduceAdd, Nat.reduceSub, reduceIte, reduceCtorEq, Nat.reduceBEq, Nat.reduceLT, decide_true])
          | (refine call_det (hG) rfl rfl ?_)
          | (refine callP_det (hG) rfl rfl ?_)
          | (refine call_det (hD) rfl rfl ?_)
          | (refine callP_det (hD) rfl rfl ?_)
          | (refine call_det hC rfl rfl ?_)
          | (refine execG_split (fun h => ?_) (fun h => ?_) <;> simp only [h])
          | (refine execC_split (fun h => ?_) (fun h => ?_) <;> (try simp only [h]))
          | (refine onPick_split (fun h => ?_) (fun h => ?_) <;> (try simp only [h])))
      refine exec_range xs.length (fun i : Nat => ⟨[(1, .d (.int .i64 day)), (7, .own 0), (8, .own 1), (9, .d (.int .i64 i))], [.val (.sl true 1 (dl iD (lapIds day (xs.take i)))), .val (.sl true 6 (dl App.d' (lapM day xs i)))]⟩) (fun _ => True) (weak_of _ rfl ⟨⟨rfl, rfl⟩, ⟨rfl, rfl⟩, ⟨rfl, rfl⟩, ⟨rfl, rfl⟩, trivial⟩) trivial ?_ ?_
      · intro i hlt _ hd h0
        obtain ⟨x, hr⟩ := get_lt hlt
        have hL := lapM_get (day := day) hr
        have hb := (okA_parts (hok.2.2 x (List.mem_of_getElem? hr))).2.2.1
        have hgs : ∀ (y : D), ((dl App.d' (lapM day xs i)).setN i y).nth i = some y := fun y => by rw [setN_nth, if_pos rfl, dl_nth, hL]; rfl
        have hlm := lapM_len day xs i
        have hids := lapIds_up (day := day) hr
        have hil : (lapIds day (xs.take i)).length ≤ 10 := by
          simp only [lapIds, List.length_map]
          exact Nat.le_trans (List.length_filter_le _ _) (by simp; omega)
        cases hB : lapB day x with
        | false =>
          rw [hB] at hids
          simp only [Bool.false_eq_true, if_false, List.append_nil] at hids
          have hkp := lapM_keep hr hB
          rw [lapB, Bool.and_eq_false_iff] at hB
          cases hs : decide (x.s = 0) with
          | false =>
            repeat' (first
                | (simp only [dl_len, hlm, hd, h0, dl_nth, hL, Int.toNat_natCast, Option.map_some, onC_true, apps_noOwn, App.noOwn, oa_size, oa_isV, ↓rd_app, hdo5, hdg5, hs, ↓wA, ↓wC, wB, frzBE, frzBS, Nat.reduceEqDiff, Nat.reduceAdd, Nat.reduceSub, reduceIte, reduceCtorEq, Nat.reduceBEq, Nat.reduceLT, decide_true])
                | (refine onI_bare (by simp only [InR]; omega) ?_)
                | (refine execG_split (fun h => ?_) (fun h => ?_) <;> simp only [h])
                | (refine execC_split (fun h => ?_) (fun h => ?_) <;> (try simp only [h]))
                | (refine onPick_split (fun h => ?_) (fun h => ?_) <;> (try simp only [h])))
            refine ⟨i + 1, ?_, by omega, by omega⟩
            rw [hids, ← hkp]
            exact (weak_of _ rfl ⟨⟨rfl, rfl⟩, ⟨rfl, rfl⟩, ⟨rfl, rfl⟩, ⟨rfl, rfl⟩, trivial⟩)
          | true =>
            have h6 : decide (60 < day - x.d) = false := by
              rcases hB with h | h
              · rw [hs] at h; cases h
              · exact h
            repeat' (first
                | (simp only [dl_len, hlm, hd, h0, dl_nth, hL, Int.toNat_natCast, Option.map_some, onC_true, apps_noOwn, App.noOwn, oa_size, oa_isV, ↓rd_app, hdo5, hdg5, hdo2, hdg2, hs, h6, ↓wA, ↓wC, wB, frzBE, frzBS, Nat.reduceEqDiff, Nat.reduceAdd, Nat.reduceSub, reduceIte, reduceCtorEq, Nat.reduceBEq, Nat.reduceLT, decide_true])
                | (refine onI_bare (by simp only [InR]; omega) ?_)
                | (refine execG_split (fun h => ?_) (fun h => ?_) <;> simp only [h])
                | (refine execC_split (fun h => ?_) (fun h => ?_) <;> (try simp only [h]))
                | (refine onPick_split (fun h => ?_) (fun h => ?_) <;> (try simp only [h])))
            refine ⟨i + 1, ?_, by omega, by omega⟩
            rw [hids, ← hkp]
            exact (weak_of _ rfl ⟨⟨rfl, rfl⟩, ⟨rfl, rfl⟩, ⟨rfl, rfl⟩, ⟨rfl, rfl⟩, trivial⟩)
        | true =>
          have e1 : lap day x = { x with s := 4 } := by simp [lap, hB]
          have e2 : (dl App.d' (lapM day xs i)).setN i (App.d' { x with s := 4 }) = dl App.d' (lapM day xs (i + 1)) := by
            rw [dl_setN, ← lapM_set hr, e1]
          rw [hB] at hids
          simp only [if_true] at hids
          rw [lapB, Bool.and_eq_true] at hB
          have hs := hB.1
          have h6 := hB.2
          repeat' (first
              | (simp only [dl_len, hlm, hd, h0, dl_nth, hL, hgs, Int.toNat_natCast, Option.map_some, onC_true, apps_noOwn, App.noOwn, oa_size, oa_isV, ↓rd_app, hdo5, hdg5, hds5, hdo2, hdg2, hdo0, hdg0, hs, h6, setN_setN, e2, app_int, ↓wA, ↓wC, wB, frzBE, frzBS, Nat.reduceEqDiff, Nat.reduceAdd, Nat.reduceSub, reduceIte, reduceCtorEq, Nat.reduceBEq, Nat.reduceLT, decide_true])
              | (refine onI_bare (by simp only [InR]; omega) ?_)
              | (refine execG_split (fun h => ?_) (fun h => ?_) <;> simp only [h])
              | (refine execC_split (fun h => ?_) (fun h => ?_) <;> (try simp only [h]))
              | (refine onPick_split (fun h => ?_) (fun h => ?_) <;> (try simp only [h])))
          refine onC_i (by simp) ?_
          refine onC_i (by omega) ?_
          refine onI_bare (by simp only [InR]; omega) ?_
          rw [← hids]
          exact ⟨i + 1, (weak_of _ rfl ⟨⟨rfl, rfl⟩, ⟨rfl, rfl⟩, ⟨rfl, rfl⟩, ⟨rfl, rfl⟩, trivial⟩), by omega, by omega⟩
      · intro _ hd
        simp only [dl_len, lapM_len, hd, ↓wA, ↓wC, wB, frzBE, frzBS, Nat.reduceEqDiff, Nat.reduceAdd, Nat.reduceSub, reduceIte, reduceCtorEq, Nat.reduceBEq, Nat.reduceLT, decide_true]
        rw [lapM_n, List.take_length]
end Go.Pe.Try
