/- Lapsed appeals, walked. -/
import Derived.Test.YtfndpmdjidenpaaAp18
set_option maxRecDepth 100000
set_option maxHeartbeats 4000000
set_option linter.all false
namespace Go.Pe.Try
open Go.Proofs.Try
def lapB (day : Int) (x : App) : Bool := decide (x.s = 0) && decide (60 < day - x.d)
def lap (day : Int) (x : App) : App := if lapB day x = true then { x with s := 4 } else x
def lapIds (day : Int) (xs : List App) : List Int := (xs.filter (lapB day)).map App.i
def lapM (day : Int) (xs : List App) (i : Nat) : List App := (xs.take i).map (lap day) ++ xs.drop i
theorem lapM_len (day : Int) (xs : List App) (i : Nat) : (lapM day xs i).length = xs.length := by simp [lapM]; omega
theorem lapM_get {day : Int} {xs : List App} {i : Nat} {x : App} (hr : xs[i]? = some x) : (lapM day xs i)[i]? = some x := by
  have hi := lt_of_get hr
  rw [lapM, List.getElem?_append_right (by simp; omega), List.length_map, List.length_take, Nat.min_eq_left (by omega), Nat.sub_self, List.getElem?_drop]
  exact hr
theorem lapM_set {day : Int} {xs : List App} {i : Nat} {x : App} (hr : xs[i]? = some x) : (lapM day xs i).set i (lap day x) = lapM day xs (i + 1) := by
  have hi := lt_of_get hr
  rw [lapM, List.set_append_right _ _ (by simp; omega), List.length_map, List.length_take, Nat.min_eq_left (by omega), Nat.sub_self, adrop_get hr, List.set_cons_zero, lapM, take_snoc hr]
  simp
theorem lapM_keep {day : Int} {xs : List App} {i : Nat} {x : App} (hr : xs[i]? = some x) (h : lapB day x = false) : lapM day xs i = lapM day xs (i + 1) := by
  rw [← lapM_set hr]
  have : lap day x = x := by simp [lap, h]
  rw [this]
  have h2 := lapM_get (day := day) hr
  have hi := lt_of_get h2
  rw [List.getElem?_eq_getElem hi] at h2
  injection h2 with h2
  rw [← h2, List.set_getElem_self]
theorem lapIds_up {day : Int} {xs : List App} {i : Nat} {x : App} (hr : xs[i]? = some x) : lapIds day (xs.take (i + 1)) = lapIds day (xs.take i) ++ (if lapB day x = true then [x.i] else []) := by
  rw [take_snoc hr, lapIds, lapIds, List.filter_append, List.map_append]
  congr 1
  by_cases h : lapB day x = true
  · simp [h]
  · simp [h]
theorem lapM_n (day : Int) (xs : List App) : lapM day xs xs.length = xs.map (lap day) := by simp [lapM]
def lapR (f : App → D) (xs : List App) (day : Int) : List D := if (goodA xs && within day 0 20000) = true then [.sl true 6 (dl f (xs.map (lap day))), .sl true 1 (dl iD (lapIds day xs)), .bool true] else [.sl true 6 .nil, .sl true 1 .nil, .bool false]
theorem lapse_fn (xs : List App) (day : Int) (hlen : xs.length ≤ 1048576) (hx : ∀ x ∈ xs, x.ok0) : Fn prog 30 [.sl false 6 (appsD xs), .int .i64 day] (fun rs => rs = lapR App.o xs day) := by
  have hG := areAppeals_fn xs hlen hx
  have hD := isDay_fn day
  have hC := copyAppeals_fn xs hlen hx
  unfold lapR
  cases hg : goodA xs with
  | false =>
    rw [hg] at hG
    refine Fn_ofg (ps := [[1, 1, 1, 1, 0, 1, 0, 0, 1, 1, 0, 0, 1, 0], [1, 1, 1, 1, 0, 1, 0, 0, 1, 1, 0, 0, 1, 0], [1, 1, 1, 1, 0, 1, 0, 0, 1, 1, 0, 0, 0], [1, 1, 1, 1, 0, 1, 0, 0, 1, 1, 0, 0, 0]]) (fn := f30) (by exact func30) c30 r30 (n := 50) (by rfl) (rv := [.tmp 4, .tmp 5, .tmp 6]) (by rfl) (by simp) ?_
    unfold m30
    simp only [ghAll, ghAt]
    repeat' (first
        | (simp only [↓wA, ↓wC, wB, frzBE, frzBS, Nat.reduceEqDiff, Nat.reduceAdd, Nat.reduceSub, reduceIte, reduceCtorEq, Nat.reduceBEq, Nat.reduceLT, decide_true])
        | (refine call_det (hG) rfl rfl ?_)
        | (refine callP_det (hG) rfl rfl ?_)
        | (refine call_det (hD) rfl rfl ?_)
        | (refine callP_det (hD) rfl rfl ?_)
        | (refine execG_split (fun h => ?_) (fun h => ?_) <;> simp only [h])
        | (refine execC_split (fun h => ?_) (fun h => ?_) <;> (try simp only [h]))
        | (refine onPick_split (fun h => ?_) (fun h => ?_) <;> (try simp only [h])))
    refine take_nil 6 ?_
    try simp only [↓wA, ↓wC, wB, frzBE, frzBS, Nat.reduceEqDiff, Nat.reduceAdd, Nat.reduceSub, reduceIte, reduceCtorEq, Nat.reduceBEq, Nat.reduceLT, decide_true]
    refine take_nil 1 ?_
    simp
  | true =>
    rw [hg] at hG
    cases hdy : within day 0 20000 with
    | false =>
      rw [hdy] at hD
      refine Fn_ofg (ps := [[1, 1, 1, 1, 0, 1, 0, 0, 1, 1, 0, 0, 1, 0], [1, 1, 1, 1, 0, 1, 0, 0, 1, 1, 0, 0, 1, 0], [1, 1, 1, 1, 0, 1, 0, 0, 1, 1, 0, 0, 0], [1, 1, 1, 1, 0, 1, 0, 0, 1, 1, 0, 0, 0]]) (fn := f30) (by exact func30) c30 r30 (n := 50) (by rfl) (rv := [.tmp 4, .tmp 5, .tmp 6]) (by rfl) (by simp) ?_
      unfold m30
      simp only [ghAll, ghAt]
      repeat' (first
          | (simp only [↓wA, ↓wC, wB, frzBE, frzBS, Nat.reduceEqDiff, Nat.reduceAdd, Nat.reduceSub, reduceIte, reduceCtorEq, Nat.reduceBEq, Nat.reduceLT, decide_true])
          | (refine call_det (hG) rfl rfl ?_)
          | (refine callP_det (hG) rfl rfl ?_)
          | (refine call_det (hD) rfl rfl ?_)
          | (refine callP_det (hD) rfl rfl ?_)
          | (refine execG_split (fun h => ?_) (fun h => ?_) <;> simp only [h])
          | (refine execC_split (fun h => ?_) (fun h => ?_) <;> (try simp only [h]))
          | (refine onPick_split (fun h => ?_) (fun h => ?_) <;> (try simp only [h])))
      refine take_nil 6 ?_
      try simp only [↓wA, ↓wC, wB, frzBE, frzBS, Nat.reduceEqDiff, Nat.reduceAdd, Nat.reduceSub, reduceIte, reduceCtorEq, Nat.reduceBEq, Nat.reduceLT, decide_true]
      refine take_nil 1 ?_
      simp
    | true =>
      rw [hdy] at hD
      have hdb := within_iff.1 hdy
      have hok := goodA_ok hg
      refine Fn_ofg (ps := [[1, 1, 1, 1, 0, 1, 0, 0, 1, 1, 0, 0, 1, 0], [1, 1, 1, 1, 0, 1, 0, 0, 1, 1, 0, 0, 1, 0], [1, 1, 1, 1, 0, 1, 0, 0, 1, 1, 0, 0, 0], [1, 1, 1, 1, 0, 1, 0, 0, 1, 1, 0, 0, 0]]) (fn := f30) (by exact func30) c30 r30 (n := 50) (by rfl) (rv := [.tmp 4, .tmp 5, .tmp 6]) (by rfl) (by simp) ?_
      unfold m30
      simp only [ghAll, ghAt]
      repeat' (first
          | (simp only [dl_len, ↓wA, ↓wC, wB, frzBE, frzBS, Nat.reduceEqDiff, Nat.reduceAdd, Nat.reduceSub, reduceIte, reduceCtorEq, Nat.reduceBEq, Nat.reduceLT, decide_true])
          | (refine call_det (hG) rfl rfl ?_)
          | (refine callP_det (hG) rfl rfl ?_)
          | (refine call_det (hD) rfl rfl ?_)
          | (refine callP_det (hD) rfl rfl ?_)
          | (refine call_det hC rfl rfl ?_)
          | (refine execG_split (fun h => ?_) (fun h => ?_) <;> simp only [h])
          | (refine execC_split (fun h => ?_) (fun h => ?_) <;> (try simp only [h]))
          | (refine onPick_split (fun h => ?_) (fun h => ?_) <;> (try simp only [h])))
      refine exec_rangeN [(8, 1)] xs.length (fun i : Nat => ⟨[(1, .d (.int .i64 day)), (7, .own 0), (8, .own 1), (21, .own 0), (22, .d (.int .i64 xs.length)), (23, .d (.int .i64 i))], [.val (.sl true 6 (dl App.o (lapM day xs i))), .val (.sl true 1 (dl iD (lapIds day (xs.take i))))]⟩) (fun _ => True) ⟨rfl, trivial⟩ ?_ trivial ?_ ?_
      · exact (weak_of _ rfl ⟨⟨rfl, rfl⟩, ⟨rfl, rfl⟩, ⟨rfl, rfl⟩, ⟨rfl, rfl⟩, ⟨rfl, rfl⟩, ⟨rfl, rfl⟩, trivial⟩)
      · intro i hlt _ hd h0
        obtain ⟨x, hr⟩ := get_lt hlt
        have hL := lapM_get (day := day) hr
        have hb := (okA_parts (hok.2.2 x (List.mem_of_getElem? hr))).2.2.1
        have hox : App.o x = x.p (.sl true 1 (dl iD x.a)) (.sl true 1 (dl iD x.h)) := rfl
        have hgs : ∀ (y : D), ((dl App.o (lapM day xs i)).setN i y).nth i = some y := fun y => by rw [setN_nth, if_pos rfl, dl_nth, hL]; rfl
        repeat' (first
            | (simp only [hd, h0, ↓wA, ↓wC, wB, frzBE, frzBS, Nat.reduceEqDiff, Nat.reduceAdd, Nat.reduceSub, reduceIte, reduceCtorEq, Nat.reduceBEq, Nat.reduceLT, decide_true])
            | (refine execG_split (fun h => ?_) (fun h => ?_) <;> simp only [h])
            | (refine execC_split (fun h => ?_) (fun h => ?_) <;> (try simp only [h]))
            | (refine onPick_split (fun h => ?_) (fun h => ?_) <;> (try simp only [h])))
        refine exec_gh _ (unlink 0 (some i) [3] (es := 1) (xs := dl iD x.a) rfl (by simp only [obPart, dl_nth, hL, Option.map_some, hox, Option.bind_some, dget_p3])) fun v1 => ?_
        simp only [obSet, dl_nth, hL, Option.map_some, Option.getD_some, hox, dset_p3, ↓wA, ↓wC, wB, frzBE, frzBS, Nat.reduceEqDiff, Nat.reduceAdd, Nat.reduceSub, reduceIte, reduceCtorEq, Nat.reduceBEq, Nat.reduceLT, decide_true]
        refine exec_gh _ (unlink 0 (some i) [4] (es := 1) (xs := dl iD x.h) rfl (by simp only [obPart, hgs, Option.bind_some, dget_p4])) fun v2 => ?_
        simp only [obSet, hgs, Option.getD_some, dset_p4, setN_setN, ↓wA, ↓wC, wB, frzBE, frzBS, Nat.reduceEqDiff, Nat.reduceAdd, Nat.reduceSub, reduceIte, reduceCtorEq, Nat.reduceBEq, Nat.reduceLT, decide_true]
        have hln : ∀ q v, (D.lnk q v).noOwn = true := fun _ _ => rfl
        have hls : ∀ q v, (D.lnk q v).size = 1 := fun _ _ => rfl
        repeat' (first
            | (simp only [h0, Int.toNat_natCast, hgs, onC_true, rd_p, size_p, isV_p, noOwn_p, hln, hls, ↓wA, ↓wC, wB, frzBE, frzBS, Nat.reduceEqDiff, Nat.reduceAdd, Nat.reduceSub, reduceIte, reduceCtorEq, Nat.reduceBEq, Nat.reduceLT, decide_true])
            | (refine execG_split (fun h => ?_) (fun h => ?_) <;> simp only [h])
            | (refine execC_split (fun h => ?_) (fun h => ?_) <;> (try simp only [h]))
            | (refine onPick_split (fun h => ?_) (fun h => ?_) <;> (try simp only [h])))
        refine exec_gh1 (relink 0 3 2 (some i) [3] rfl (by simp only [obPart, hgs, Option.bind_some, dget_p3]) rfl rfl (by decide) rfl) ?_
        simp only [obSet, hgs, Option.getD_some, dset_p3, setN_setN, ↓wA, ↓wC, wB, frzBE, frzBS, Nat.reduceEqDiff, Nat.reduceAdd, Nat.reduceSub, reduceIte, reduceCtorEq, Nat.reduceBEq, Nat.reduceLT, decide_true]
        refine exec_gh1 (relink 0 5 4 (some i) [4] rfl (by simp only [obPart, hgs, Option.bind_some, dget_p4]) rfl rfl (by decide) rfl) ?_
        simp only [obSet, hgs, Option.getD_some, dset_p4, setN_setN, ↓wA, ↓wC, wB, frzBE, frzBS, Nat.reduceEqDiff, Nat.reduceAdd, Nat.reduceSub, reduceIte, reduceCtorEq, Nat.reduceBEq, Nat.reduceLT, decide_true]
        have hids := lapIds_up (day := day) hr
        have hk : App.p { i := x.i, q := x.q, d := x.d, a := x.a, h := x.h, s := 4 } (.sl true 1 (dl iD x.a)) (.sl true 1 (dl iD x.h)) = App.o { x with s := 4 } := rfl
        have hil : (lapIds day (xs.take i)).length ≤ 10 := by
          simp only [lapIds, List.length_map]
          exact Nat.le_trans (List.length_filter_le _ _) (by simp; omega)
        cases hB : lapB day x with
        | false =>
          have e1 : lap day x = x := by simp [lap, hB]
          have e2 : (dl App.o (lapM day xs i)).setN i (x.p (.sl true 1 (dl iD x.a)) (.sl true 1 (dl iD x.h))) = dl App.o (lapM day xs (i + 1)) := by
            rw [← hox, dl_setN, ← lapM_set hr, e1]
          rw [hB] at hids
          simp only [Bool.false_eq_true, if_false, List.append_nil] at hids
          rw [← hids, e2]
          rw [lapB, Bool.and_eq_false_iff] at hB
          cases hs : decide (x.s = 0) with
          | false =>
            repeat' (first
                | (simp only [h0, hs, onC_true, doff_p5, dget_p5, ↓wA, ↓wC, wB, frzBE, frzBS, Nat.reduceEqDiff, Nat.reduceAdd, Nat.reduceSub, reduceIte, reduceCtorEq, Nat.reduceBEq, Nat.reduceLT, decide_true])
                | (refine onI_bare (by simp only [InR]; omega) ?_)
                | (refine execG_split (fun h => ?_) (fun h => ?_) <;> simp only [h])
                | (refine execC_split (fun h => ?_) (fun h => ?_) <;> (try simp only [h]))
                | (refine onPick_split (fun h => ?_) (fun h => ?_) <;> (try simp only [h])))
            exact ⟨i + 1, (weak_of _ rfl ⟨⟨rfl, rfl⟩, ⟨rfl, rfl⟩, ⟨rfl, rfl⟩, ⟨rfl, rfl⟩, ⟨rfl, rfl⟩, ⟨rfl, rfl⟩, trivial⟩), by omega, by omega⟩
          | true =>
            have h6 : decide (60 < day - x.d) = false := by
              rcases hB with h | h
              · rw [hs] at h; cases h
              · exact h
            repeat' (first
                | (simp only [h0, hs, h6, onC_true, doff_p5, dget_p5, doff_p2, dget_p2, ↓wA, ↓wC, wB, frzBE, frzBS, Nat.reduceEqDiff, Nat.reduceAdd, Nat.reduceSub, reduceIte, reduceCtorEq, Nat.reduceBEq, Nat.reduceLT, decide_true])
                | (refine onI_bare (by simp only [InR]; omega) ?_)
                | (refine execG_split (fun h => ?_) (fun h => ?_) <;> simp only [h])
                | (refine execC_split (fun h => ?_) (fun h => ?_) <;> (try simp only [h]))
                | (refine onPick_split (fun h => ?_) (fun h => ?_) <;> (try simp only [h])))
            exact ⟨i + 1, (weak_of _ rfl ⟨⟨rfl, rfl⟩, ⟨rfl, rfl⟩, ⟨rfl, rfl⟩, ⟨rfl, rfl⟩, ⟨rfl, rfl⟩, ⟨rfl, rfl⟩, trivial⟩), by omega, by omega⟩
        | true =>
          have e1 : lap day x = { x with s := 4 } := by simp [lap, hB]
          have e2 : (dl App.o (lapM day xs i)).setN i (App.o { x with s := 4 }) = dl App.o (lapM day xs (i + 1)) := by
            rw [dl_setN, ← lapM_set hr, e1]
          rw [hB] at hids
          simp only [if_true] at hids
          rw [lapB, Bool.and_eq_true] at hB
          have hs := hB.1
          have h6 := hB.2
          repeat' (first
              | (simp only [h0, hs, h6, Int.toNat_natCast, hgs, onC_true, doff_p0, dget_p0, doff_p5, dget_p5, dset_p5, doff_p2, dget_p2, setN_setN, hk, e2, dl_len, app_int, ↓wA, ↓wC, wB, frzBE, frzBS, Nat.reduceEqDiff, Nat.reduceAdd, Nat.reduceSub, reduceIte, reduceCtorEq, Nat.reduceBEq, Nat.reduceLT, decide_true])
              | (refine onI_bare (by simp only [InR]; omega) ?_)
              | (refine execG_split (fun h => ?_) (fun h => ?_) <;> simp only [h])
              | (refine execC_split (fun h => ?_) (fun h => ?_) <;> (try simp only [h]))
              | (refine onPick_split (fun h => ?_) (fun h => ?_) <;> (try simp only [h])))
          refine onC_i (by simp) ?_
          refine onC_i (by omega) ?_
          refine onI_bare (by simp only [InR]; omega) ?_
          rw [← hids]
          exact ⟨i + 1, (weak_of _ rfl ⟨⟨rfl, rfl⟩, ⟨rfl, rfl⟩, ⟨rfl, rfl⟩, ⟨rfl, rfl⟩, ⟨rfl, rfl⟩, ⟨rfl, rfl⟩, trivial⟩), by omega, by omega⟩
      · intro _ hd
        simp only [hd, ↓wA, ↓wC, wB, frzBE, frzBS, Nat.reduceEqDiff, Nat.reduceAdd, Nat.reduceSub, reduceIte, reduceCtorEq, Nat.reduceBEq, Nat.reduceLT, decide_true]
        rw [lapM_n, List.take_length]
end Go.Pe.Try
