/- A party heard as the reference has it, walked. -/
import Derived.Test.YtpephpnbhlfdaaaHp1
set_option maxRecDepth 100000
set_option maxHeartbeats 4000000
set_option linter.all false
namespace Go.Pe.Try
open Go.Proofs.Try
theorem l1Put_fn (v : List Int) (p : Int) (hlen : v.length ≤ 1048576) (hp : p ∉ v) : Fn prog 22 [.sl false 1 (dl iD v), .int .i64 p] (fun rs => rs = [.sl true 1 (dl iD (putI p v))]) := by
  refine Fn_of' (fn := f22) (by exact func22) c22 r22 (n := 45) (by rfl) (rv := [.tmp 4]) (by rfl) (by simp) ?_
  unfold m22
  simp only [↓wA, ↓wC, wB, frzBE, frzBS, Nat.reduceEqDiff, Nat.reduceAdd, Nat.reduceSub, reduceIte, reduceCtorEq, Nat.reduceBEq, Nat.reduceLT, decide_true]
  refine exec_loop (fun k : Nat => ⟨[(0, .d (.sl false 1 (dl iD v))), (1, .d (.int .i64 p)), (5, .d (.int .i64 k))], []⟩) (fun k => k ≤ v.length ∧ ∀ m x, m < k → v[m]? = some x → x < p) (fun k => v.length - k) 0 (weak_of _ rfl ⟨⟨rfl, rfl⟩, ⟨rfl, rfl⟩, ⟨rfl, rfl⟩, trivial⟩) ⟨by omega, fun m x hm _ => by omega⟩ ?_
  rintro k ⟨hk, hinv⟩
  have h0 : (0 : Int) ≤ (k : Int) := by omega
  have hs1 : (dl iD v).sub 0 k = dl iD (v.take k) := by rw [dl_sub]; rfl
  have hs2 : (dl iD v).sub k v.length = dl iD (v.drop k) := by rw [dl_sub, List.take_length]
  have hs3 : (dl iD v).sub v.length v.length = dl iD (v.drop v.length) := by rw [dl_sub, List.take_length]
  have hs4 : (dl iD v).sub 0 v.length = dl iD (v.take v.length) := by rw [dl_sub]; rfl
  by_cases hlt : k < v.length
  · obtain ⟨x, hx⟩ := get_lt hlt
    have hd : decide ((k : Int) < (v.length : Int)) = true := decide_eq_true (by omega)
    cases hc : decide (x < p) with
    | true =>
      repeat' (first
          | (simp only [dl_len, hd, h0, hc, dl_nth, Int.toNat_natCast, hx, Option.map_some, rd_iD, onC_true, ↓wA, ↓wC, wB, frzBE, frzBS, Nat.reduceEqDiff, Nat.reduceAdd, Nat.reduceSub, reduceIte, reduceCtorEq, Nat.reduceBEq, Nat.reduceLT, decide_true])
          | (with_reducible refine onI_bare ?_ ?_; focus (simp only [InR]; omega))
          | (refine execG_split (fun h => ?_) (fun h => ?_) <;> simp only [h])
          | (refine execC_split (fun h => ?_) (fun h => ?_) <;> (try simp only [h]))
          | (refine onPick_split (fun h => ?_) (fun h => ?_) <;> (try simp only [h])))
      refine ⟨k + 1, (weak_of _ rfl ⟨⟨rfl, rfl⟩, ⟨rfl, rfl⟩, ⟨rfl, rfl⟩, trivial⟩), ⟨by omega, fun m z hm hz => ?_⟩, by omega⟩
      by_cases e : m = k
      · subst e
        rw [hx] at hz
        injection hz with hz
        rw [← hz]
        exact of_decide_eq_true hc
      · exact hinv m z (by omega) hz
    | false =>
      have hpos := pos_eq v k hk hinv (fun z hz => by
        rw [hx] at hz
        injection hz with hz
        rw [← hz]
        exact of_decide_eq_false hc)
      have hne : decide (x = p) = false := decide_eq_false (fun e => hp (e ▸ List.mem_of_getElem? hx))
      rw [putI, hpos]
      repeat' (first
          | (simp only [dl_len, hd, h0, hc, hne, dl_nth, Int.toNat_natCast, hx, Option.map_some, rd_iD, onC_true, ↓wA, ↓wC, wB, frzBE, frzBS, Nat.reduceEqDiff, Nat.reduceAdd, Nat.reduceSub, reduceIte, reduceCtorEq, Nat.reduceBEq, Nat.reduceLT, decide_true])
          | (refine onJ_q ?_)
          | (with_reducible refine And.intro ?_ ?_)
          | (with_reducible refine onC_i ?_ ?_; focus omega)
          | (with_reducible refine onC_i ?_ ?_; focus (simp; done))
          | (with_reducible refine onC_i ?_ ?_; focus (simp; omega))
          | (with_reducible refine onI_bare ?_ ?_; focus (simp only [InR]; omega))
          | (refine execG_split (fun h => ?_) (fun h => ?_) <;> simp only [h])
          | (refine execC_split (fun h => ?_) (fun h => ?_) <;> (try simp only [h]))
          | (refine onPick_split (fun h => ?_) (fun h => ?_) <;> (try simp only [h])))
      all_goals
        simp only [hs1, hs2, app_int, dl_app, dl_len, List.length_append, List.length_take, List.length_drop, List.length_singleton, Nat.min_eq_left hk]
        repeat' (first | (with_reducible refine onC_i ?_ ?_; focus omega) | (with_reducible refine onC_i ?_ ?_; focus (simp; done)))
        all_goals simp [List.append_assoc]
  · have hd : decide ((k : Int) < (v.length : Int)) = false := decide_eq_false (by omega)
    have e : k = v.length := by omega
    have hpos := pos_eq v k hk hinv (fun z hz => absurd (lt_of_get hz) (by omega))
    rw [putI, hpos]
    subst e
    repeat' (first
        | (simp only [dl_len, hd, h0, Int.toNat_natCast, rd_iD, onC_true, ↓wA, ↓wC, wB, frzBE, frzBS, Nat.reduceEqDiff, Nat.reduceAdd, Nat.reduceSub, reduceIte, reduceCtorEq, Nat.reduceBEq, Nat.reduceLT, decide_true])
        | (refine onJ_q ?_)
        | (with_reducible refine And.intro ?_ ?_)
        | (with_reducible refine onC_i ?_ ?_; focus omega)
        | (with_reducible refine onC_i ?_ ?_; focus (simp; done))
        | (with_reducible refine onC_i ?_ ?_; focus (simp; omega))
        | (with_reducible refine onI_bare ?_ ?_; focus (simp only [InR]; omega))
        | (refine execG_split (fun h => ?_) (fun h => ?_) <;> simp only [h])
        | (refine execC_split (fun h => ?_) (fun h => ?_) <;> (try simp only [h]))
        | (refine onPick_split (fun h => ?_) (fun h => ?_) <;> (try simp only [h])))
    all_goals
      simp only [hs3, hs4, app_int, dl_app, dl_len, List.length_append, List.length_take, List.length_drop, List.length_singleton, Nat.min_eq_left hk]
      repeat' (first | (with_reducible refine onC_i ?_ ?_; focus omega) | (with_reducible refine onC_i ?_ ?_; focus (simp; done)))
      all_goals simp [List.append_assoc]
theorem specHear_fn (xs : List App) (id p : Int) (hlen : xs.length ≤ 1048576) (hx : ∀ x ∈ xs, x.ok0) : Fn prog 6 [.sl false 6 (appsD xs), .int .i64 id, .int .i64 p] (fun rs => rs = listR App.d' (hearR xs id p)) := by
  have hF := l24Find_fn xs id hlen
  have hG := l24Good_fn xs hlen hx
  have hC := l24Own_fn xs hlen hx
  rcases find_cases xs id with ⟨hn, hn'⟩ | ⟨i, x, hi, hr, _⟩
  · rw [hearR_neg hn']
    refine Fn_of' (fn := f6) (by exact func6) c6 r6 (n := 73) (by rfl) (rv := [.tmp 6, .tmp 7]) (by rfl) (by simp) ?_
    unfold m6
    repeat' (first
        | (simp only [hn, ↓wA, ↓wC, wB, frzBE, frzBS, Nat.reduceEqDiff, Nat.reduceAdd, Nat.reduceSub, reduceIte, reduceCtorEq, Nat.reduceBEq, Nat.reduceLT, decide_true])
        | (refine call_det (hF) rfl rfl ?_)
        | (refine callP_det (hF) rfl rfl ?_)
        | (refine call_det (hG) rfl rfl ?_)
        | (refine callP_det (hG) rfl rfl ?_)
        | (refine execG_split (fun h => ?_) (fun h => ?_) <;> simp only [h])
        | (refine execC_split (fun h => ?_) (fun h => ?_) <;> (try simp only [h]))
        | (refine onPick_split (fun h => ?_) (fun h => ?_) <;> (try simp only [h])))
    all_goals rfl
  · rw [hearR_at hi hr]
    rw [hi] at hF
    have hm := List.mem_of_getElem? hr
    have h0 : (0 : Int) ≤ (i : Int) := by omega
    have hn : decide ((i : Int) < 0) = false := decide_eq_false (by omega)
    have hA := l1Has_fn x.a p (hx x hm).1
    have hH := l1Has_fn x.h p (hx x hm).2
    have hgs : ∀ (y : D), ((appsD xs).setN i y).nth i = some y := fun y => by rw [setN_nth, if_pos rfl, dl_nth, hr]; rfl
    unfold hearOK waitA
    cases hg : goodA xs with
    | false =>
      rw [hg] at hG
      refine Fn_of' (fn := f6) (by exact func6) c6 r6 (n := 73) (by rfl) (rv := [.tmp 6, .tmp 7]) (by rfl) (by simp) ?_
      unfold m6
      repeat' (first
          | (simp only [hn, ↓wA, ↓wC, wB, frzBE, frzBS, Nat.reduceEqDiff, Nat.reduceAdd, Nat.reduceSub, reduceIte, reduceCtorEq, Nat.reduceBEq, Nat.reduceLT, decide_true])
          | (refine call_det (hF) rfl rfl ?_)
          | (refine callP_det (hF) rfl rfl ?_)
          | (refine call_det (hG) rfl rfl ?_)
          | (refine callP_det (hG) rfl rfl ?_)
          | (refine execG_split (fun h => ?_) (fun h => ?_) <;> simp only [h])
          | (refine execC_split (fun h => ?_) (fun h => ?_) <;> (try simp only [h]))
          | (refine onPick_split (fun h => ?_) (fun h => ?_) <;> (try simp only [h])))
      all_goals rfl
    | true =>
      rw [hg] at hG
      cases hs : decide (x.s = 0) with
      | false =>
        refine Fn_of' (fn := f6) (by exact func6) c6 r6 (n := 73) (by rfl) (rv := [.tmp 6, .tmp 7]) (by rfl) (by simp) ?_
        unfold m6
        repeat' (first
            | (simp only [hn, h0, dl_nth, Int.toNat_natCast, hr, Option.map_some, onC_true, ↓fa_app5, hs, ↓wA, ↓wC, wB, frzBE, frzBS, Nat.reduceEqDiff, Nat.reduceAdd, Nat.reduceSub, reduceIte, reduceCtorEq, Nat.reduceBEq, Nat.reduceLT, decide_true])
            | (refine call_det (hF) rfl rfl ?_)
            | (refine callP_det (hF) rfl rfl ?_)
            | (refine call_det (hG) rfl rfl ?_)
            | (refine callP_det (hG) rfl rfl ?_)
            | (refine execG_split (fun h => ?_) (fun h => ?_) <;> simp only [h])
            | (refine execC_split (fun h => ?_) (fun h => ?_) <;> (try simp only [h]))
            | (refine onPick_split (fun h => ?_) (fun h => ?_) <;> (try simp only [h])))
        all_goals rfl
      | true =>
        cases ha : x.a.contains p with
        | false =>
          rw [ha] at hA
          refine Fn_of' (fn := f6) (by exact func6) c6 r6 (n := 73) (by rfl) (rv := [.tmp 6, .tmp 7]) (by rfl) (by simp) ?_
          unfold m6
          repeat' (first
              | (simp only [hn, h0, dl_nth, Int.toNat_natCast, hr, Option.map_some, onC_true, ↓fa_app5, ↓fa_app3, ints_noOwn, hs, ↓wA, ↓wC, wB, frzBE, frzBS, Nat.reduceEqDiff, Nat.reduceAdd, Nat.reduceSub, reduceIte, reduceCtorEq, Nat.reduceBEq, Nat.reduceLT, decide_true])
              | (refine call_det (hF) rfl rfl ?_)
              | (refine callP_det (hF) rfl rfl ?_)
              | (refine call_det (hG) rfl rfl ?_)
              | (refine callP_det (hG) rfl rfl ?_)
              | (refine call_det (hA) rfl rfl ?_)
              | (refine callP_det (hA) rfl rfl ?_)
              | (refine execG_split (fun h => ?_) (fun h => ?_) <;> simp only [h])
              | (refine execC_split (fun h => ?_) (fun h => ?_) <;> (try simp only [h]))
              | (refine onPick_split (fun h => ?_) (fun h => ?_) <;> (try simp only [h])))
          all_goals rfl
        | true =>
          rw [ha] at hA
          cases hh : x.h.contains p with
          | true =>
            rw [hh] at hH
            refine Fn_of' (fn := f6) (by exact func6) c6 r6 (n := 73) (by rfl) (rv := [.tmp 6, .tmp 7]) (by rfl) (by simp) ?_
            unfold m6
            repeat' (first
                | (simp only [hn, h0, dl_nth, Int.toNat_natCast, hr, Option.map_some, onC_true, ↓fa_app5, ↓fa_app3, ↓fa_app4, ints_noOwn, hs, ↓wA, ↓wC, wB, frzBE, frzBS, Nat.reduceEqDiff, Nat.reduceAdd, Nat.reduceSub, reduceIte, reduceCtorEq, Nat.reduceBEq, Nat.reduceLT, decide_true])
                | (refine call_det (hF) rfl rfl ?_)
                | (refine callP_det (hF) rfl rfl ?_)
                | (refine call_det (hG) rfl rfl ?_)
                | (refine callP_det (hG) rfl rfl ?_)
                | (refine call_det (hA) rfl rfl ?_)
                | (refine callP_det (hA) rfl rfl ?_)
                | (refine call_det (hH) rfl rfl ?_)
                | (refine callP_det (hH) rfl rfl ?_)
                | (refine execG_split (fun h => ?_) (fun h => ?_) <;> simp only [h])
                | (refine execC_split (fun h => ?_) (fun h => ?_) <;> (try simp only [h]))
                | (refine onPick_split (fun h => ?_) (fun h => ?_) <;> (try simp only [h])))
            all_goals rfl
          | false =>
            rw [hh] at hH
            have hpn : p ∉ x.h := fun h => by
              rw [List.contains_iff_mem.2 h] at hh
              cases hh
            have hP : Fn prog 22 [.sl false 1 (dl iD x.h), .int .i64 p] (fun rs => rs = [.sl false 1 (dl iD (putI p x.h))]) := by
              have h := Fn_unown (l1Put_fn x.h p (hx x hm).2 hpn)
              simpa [D.unown, ints_unown] using h
            have hdo5 : ∀ y : App, doff [5] y.d' = 5 := fun y => by simp [App.d', doff, D.pre, D.nth, D.size]
            have hdo3 : ∀ y : App, doff [3] y.d' = 3 := fun y => by simp [App.d', doff, D.pre, D.nth, D.size]
            have hdo4 : ∀ y : App, doff [4] y.d' = 4 := fun y => by simp [App.d', doff, D.pre, D.nth, D.size]
            have hdg5 : ∀ y : App, dget [5] y.d' = some (.int .i64 y.s) := fun y => rfl
            have hdg3 : ∀ y : App, dget [3] y.d' = some (.sl false 1 (dl iD y.a)) := fun y => rfl
            have hdg4 : ∀ y : App, dget [4] y.d' = some (.sl false 1 (dl iD y.h)) := fun y => rfl
            have hds5 : ∀ (y : App) (k : Int), dset [5] y.d' (.int .i64 k) = App.d' { y with s := k } := fun y k => rfl
            have hds4 : ∀ (y : App) (w : List Int), dset [4] y.d' (.sl false 1 (dl iD w)) = App.d' { y with h := w } := fun y w => rfl
            cases hc : decide (((putI p x.h).length : Int) = (x.a.length : Int)) with
            | false =>
              have e : hearA x p = { x with h := putI p x.h } := by rw [hearA, if_neg (of_decide_eq_false hc)]
              refine Fn_of' (fn := f6) (by exact func6) c6 r6 (n := 73) (by rfl) (rv := [.tmp 6, .tmp 7]) (by rfl) (by simp) ?_
              unfold m6
              repeat' (first
                  | (simp only [hn, h0, dl_len, dl_nth, Int.toNat_natCast, hr, Option.map_some, onC_true, ↓fa_app5, ↓fa_app3, ↓fa_app4, ints_noOwn, hs, hgs, apps_noOwn, App.noOwn, oa_size, oa_isV, ↓rd_app, hdo5, hdo3, hdo4, hdg5, hdg3, hdg4, hds5, hds4, hc, setN_setN, ↓wA, ↓wC, wB, frzBE, frzBS, Nat.reduceEqDiff, Nat.reduceAdd, Nat.reduceSub, reduceIte, reduceCtorEq, Nat.reduceBEq, Nat.reduceLT, decide_true])
                  | (refine call_det (hF) rfl rfl ?_)
                  | (refine callP_det (hF) rfl rfl ?_)
                  | (refine call_det (hG) rfl rfl ?_)
                  | (refine callP_det (hG) rfl rfl ?_)
                  | (refine call_det (hA) rfl rfl ?_)
                  | (refine callP_det (hA) rfl rfl ?_)
                  | (refine call_det (hH) rfl rfl ?_)
                  | (refine callP_det (hH) rfl rfl ?_)
                  | (refine call_det (hP) rfl rfl ?_)
                  | (refine callP_det (hP) rfl rfl ?_)
                  | (refine call_det hC rfl rfl ?_)
                  | (refine execG_split (fun h => ?_) (fun h => ?_) <;> simp only [h])
                  | (refine execC_split (fun h => ?_) (fun h => ?_) <;> (try simp only [h]))
                  | (refine onPick_split (fun h => ?_) (fun h => ?_) <;> (try simp only [h])))
              all_goals
                rw [← e, dl_setN]
                rfl
            | true =>
              have e : hearA x p = { x with h := putI p x.h, s := 1 } := by rw [hearA, if_pos (of_decide_eq_true hc)]
              refine Fn_of' (fn := f6) (by exact func6) c6 r6 (n := 73) (by rfl) (rv := [.tmp 6, .tmp 7]) (by rfl) (by simp) ?_
              unfold m6
              repeat' (first
                  | (simp only [hn, h0, dl_len, dl_nth, Int.toNat_natCast, hr, Option.map_some, onC_true, ↓fa_app5, ↓fa_app3, ↓fa_app4, ints_noOwn, hs, hgs, apps_noOwn, App.noOwn, oa_size, oa_isV, ↓rd_app, hdo5, hdo3, hdo4, hdg5, hdg3, hdg4, hds5, hds4, hc, setN_setN, ↓wA, ↓wC, wB, frzBE, frzBS, Nat.reduceEqDiff, Nat.reduceAdd, Nat.reduceSub, reduceIte, reduceCtorEq, Nat.reduceBEq, Nat.reduceLT, decide_true])
                  | (refine call_det (hF) rfl rfl ?_)
                  | (refine callP_det (hF) rfl rfl ?_)
                  | (refine call_det (hG) rfl rfl ?_)
                  | (refine callP_det (hG) rfl rfl ?_)
                  | (refine call_det (hA) rfl rfl ?_)
                  | (refine callP_det (hA) rfl rfl ?_)
                  | (refine call_det (hH) rfl rfl ?_)
                  | (refine callP_det (hH) rfl rfl ?_)
                  | (refine call_det (hP) rfl rfl ?_)
                  | (refine callP_det (hP) rfl rfl ?_)
                  | (refine call_det hC rfl rfl ?_)
                  | (refine execG_split (fun h => ?_) (fun h => ?_) <;> simp only [h])
                  | (refine execC_split (fun h => ?_) (fun h => ?_) <;> (try simp only [h]))
                  | (refine onPick_split (fun h => ?_) (fun h => ?_) <;> (try simp only [h])))
              all_goals
                rw [← e, dl_setN]
                rfl
end Go.Pe.Try
