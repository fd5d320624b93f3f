/- The law of parties, walked. -/
import Derived.Test.YtbkjloohaahmdaaW3
import Derived.Test.YtbkjloohaahmdaaW2
set_option maxRecDepth 100000
set_option maxHeartbeats 4000000
set_option linter.all false
namespace Go.Pe.Try
open Go.Proofs.Try
theorem wait_form (xs : List App) (p : Int) (hlen : xs.length ≤ 1048576) : ∃ ids b, waitR xs p = [.sl true 1 (dl iD ids), .bool b] ∧ ids.length ≤ 1048576 ∧ ∀ id ∈ ids, ∃ u, nhR xs id = some u ∧ u.contains p = true := by
  unfold waitR
  split
  · rename_i h
    refine ⟨_, true, rfl, ?_, fun id hid => wait_law h hid⟩
    rw [waitIds, List.length_map, sortA_len]
    exact Nat.le_trans (waitL_len xs p) hlen
  · exact ⟨[], false, rfl, by simp, by simp⟩
theorem few_ints {xs : List App} {day : Int} (h : xs.length ≤ 1048576) : (lapIds day xs).length ≤ 1048576 := by
  unfold lapIds
  rw [List.length_map]
  exact Nat.le_trans (List.length_filter_le _ _) h
theorem fnParties_fn (code : List UInt8) : Fn prog 5 [.sl false 1 (bytesD code)] (fun rs => rs = [.bool true]) := by
  have hB := rBig_fn code
  cases hb : decide ((65536 : Int) < (code.length : Int)) with
  | true =>
    rw [hb] at hB
    refine Fn_of' (fn := f5) (by exact func5) c5 r5 (n := 267) (by rfl) (rv := [.tmp 2]) (by rfl) (by simp) ?_
    unfold m5
    repeat' (first
        | (simp only [↓wA, ↓wC, wB, frzBE, frzBS, Nat.reduceEqDiff, Nat.reduceAdd, Nat.reduceSub, reduceIte, reduceCtorEq, Nat.reduceBEq, Nat.reduceLT, decide_true])
        | (refine call_det (hB) rfl rfl ?_)
        | (refine callP_det (hB) rfl rfl ?_)
        | (refine execG_split (fun h => ?_) (fun h => ?_) <;> simp only [h])
        | (refine execC_split (fun h => ?_) (fun h => ?_) <;> (try simp only [h]))
        | (refine onPick_split (fun h => ?_) (fun h => ?_) <;> (try simp only [h])))
  | false =>
    rw [hb] at hB
    have hc : code.length ≤ 1048576 := by have := of_decide_eq_false hb; omega
    refine Fn_ofg (ps := [[1, 1, 1, 1, 1, 1, 1, 1, 1, 1, 1, 1, 1, 1, 0], [1, 1, 1, 1, 1, 1, 1, 1, 1, 1, 0], [1, 1, 1, 1, 1, 1, 0]]) (fn := f5) (by exact func5) c5 r5 (n := 267) (by rfl) (rv := [.tmp 2]) (by rfl) (by simp) ?_
    unfold m5
    simp only [ghAll, ghAt]
    repeat' (first
        | (simp only [↓wA, ↓wC, wB, frzBE, frzBS, Nat.reduceEqDiff, Nat.reduceAdd, Nat.reduceSub, reduceIte, reduceCtorEq, Nat.reduceBEq, Nat.reduceLT, decide_true])
        | (refine call_det (hB) rfl rfl ?_)
        | (refine callP_det (hB) rfl rfl ?_)
        | (refine execG_split (fun h => ?_) (fun h => ?_) <;> simp only [h])
        | (refine execC_split (fun h => ?_) (fun h => ?_) <;> (try simp only [h]))
        | (refine onPick_split (fun h => ?_) (fun h => ?_) <;> (try simp only [h])))
    refine call_rel (drawWait_fn code hc) rfl fun rs h => ?_
    obtain ⟨xs, p, rfl, hxs⟩ := h
    obtain ⟨hxl, hxo⟩ := drawn_ok hxs
    have hno := apps_noOwn xs
    refine ⟨.inl rfl, ?_⟩
    have hI := waitFor_fn xs p hxl hxo
    have hS := specWait_fn xs p hxl hxo
    obtain ⟨ids, b, hw, hil, hid⟩ := wait_form xs p hxl
    rw [hw] at hI hS
    have hJ : Fn prog 27 [.sl false 1 (dl iD ids).unown, .sl false 1 (dl iD ids).unown] (fun rs => rs = [.bool true]) := by rw [ints_unown]; exact rInts_refl ids hil
    have hbb : (!(b == b)) = false := by cases b <;> rfl
    repeat' (first
        | (simp only [hno, hbb, onC_true, ↓wA, ↓wC, wB, frzBE, frzBS, Nat.reduceEqDiff, Nat.reduceAdd, Nat.reduceSub, reduceIte, reduceCtorEq, Nat.reduceBEq, Nat.reduceLT, decide_true])
        | (refine call_det (hI) rfl rfl ?_)
        | (refine callP_det (hI) rfl rfl ?_)
        | (refine call_det (hS) rfl rfl ?_)
        | (refine callP_det (hS) rfl rfl ?_)
        | (refine call_det (hJ) rfl rfl ?_)
        | (refine callP_det (hJ) rfl rfl ?_)
        | (refine execG_split (fun h => ?_) (fun h => ?_) <;> simp only [h])
        | (refine execC_split (fun h => ?_) (fun h => ?_) <;> (try simp only [h]))
        | (refine onPick_split (fun h => ?_) (fun h => ?_) <;> (try simp only [h])))
    refine exec_range ids.length (fun i : Nat => ⟨[(0, .d (.sl false 1 (bytesD code))), (3, .d (.sl false 6 (appsD xs))), (4, .d (.int .i64 p)), (5, .own 0), (9, .d (.int .i64 i))], [.val (.sl true 1 (dl iD ids))]⟩) (fun _ => True) (weak_of _ rfl ⟨⟨rfl, rfl⟩, ⟨rfl, rfl⟩, ⟨rfl, rfl⟩, ⟨rfl, rfl⟩, ⟨rfl, rfl⟩, trivial⟩) trivial ?_ ?_
    · intro i hlt _ hd h0
      obtain ⟨n, hr⟩ := get_lt hlt
      obtain ⟨u, hu, hup⟩ := hid n (List.mem_of_getElem? hr)
      have hN := notHeard_fn xs n hxl hxo
      rw [hu] at hN
      have hH1 : Fn prog 28 [.sl false 1 (dl iD u).unown, .int .i64 p] (fun rs => rs = [.bool true]) := by
        have h := rHas_fn u p (nhR_bd hxo hu)
        rw [hup] at h
        rw [ints_unown]; exact h
      repeat' (first
          | (simp only [hno, intsR, dl_len, dl_nth, hd, h0, hr, Int.toNat_natCast, Option.map_some, dget_int, doff_int, rd_iD, onC_true, ↓wA, ↓wC, wB, frzBE, frzBS, Nat.reduceEqDiff, Nat.reduceAdd, Nat.reduceSub, reduceIte, reduceCtorEq, Nat.reduceBEq, Nat.reduceLT, decide_true])
          | (refine call_det (hN) rfl rfl ?_)
          | (refine callP_det (hN) rfl rfl ?_)
          | (refine call_det (hH1) rfl rfl ?_)
          | (refine callP_det (hH1) rfl rfl ?_)
          | (with_reducible refine onI_bare ?_ ?_; focus (simp only [InR]; omega))
          | (refine execG_split (fun h => ?_) (fun h => ?_) <;> simp only [h])
          | (refine execC_split (fun h => ?_) (fun h => ?_) <;> (try simp only [h]))
          | (refine onPick_split (fun h => ?_) (fun h => ?_) <;> (try simp only [h])))
      exact ⟨i + 1, (weak_of _ rfl ⟨⟨rfl, rfl⟩, ⟨rfl, rfl⟩, ⟨rfl, rfl⟩, ⟨rfl, rfl⟩, ⟨rfl, rfl⟩, trivial⟩), by omega, by omega⟩
    · intro _ hd
      repeat' (first
          | (simp only [dl_len, hd, ↓wA, ↓wC, wB, frzBE, frzBS, Nat.reduceEqDiff, Nat.reduceAdd, Nat.reduceSub, reduceIte, reduceCtorEq, Nat.reduceBEq, Nat.reduceLT, decide_true])
          | (refine execG_split (fun h => ?_) (fun h => ?_) <;> simp only [h])
          | (refine execC_split (fun h => ?_) (fun h => ?_) <;> (try simp only [h]))
          | (refine onPick_split (fun h => ?_) (fun h => ?_) <;> (try simp only [h])))
      refine exec_gh1 (weak_of (s' := ⟨[(0, .d (.sl false 1 (bytesD code)))], []⟩) _ rfl ⟨⟨rfl, rfl⟩, trivial⟩) ?_
      clear hxs hxl hxo hno hI hS hw hil hid hJ hbb hd
      simp only [↓wA, ↓wC, wB, frzBE, frzBS, Nat.reduceEqDiff, Nat.reduceAdd, Nat.reduceSub, reduceIte, reduceCtorEq, Nat.reduceBEq, Nat.reduceLT, decide_true]
      refine call_rel (drawLapse_fn code hc) rfl fun rs h => ?_
      obtain ⟨l, day, rfl, hxs, _, _⟩ := h
      obtain ⟨hxl, hxo⟩ := drawn_ok hxs
      have hno := apps_noOwn l
      refine ⟨.inl rfl, ?_⟩
      apply cutT
      case m =>
        intro rest
        have hI := lapse_fn l day hxl hxo
        have hS := specLapse_fn l day hxl hxo
        cases hR : goodA l && within day 0 20000 with
        | false =>
          rw [lapR, hR] at hI hS
          have hI' : Fn prog 36 [.sl false 6 (appsD l), .int .i64 day] (fun rs => rs = [.sl true 6 .nil, .sl true 1 .nil, .bool false]) := hI
          have hS' : Fn prog 37 [.sl false 6 (appsD l), .int .i64 day] (fun rs => rs = [.sl true 6 .nil, .sl true 1 .nil, .bool false]) := hS
          have hA' : Fn prog 38 [.sl false 6 .nil, .sl false 6 .nil] (fun rs => rs = [.bool true]) := rAppeals_refl [] (by simp) (by simp)
          have hJ' : Fn prog 27 [.sl false 1 .nil, .sl false 1 .nil] (fun rs => rs = [.bool true]) := rInts_refl [] (by simp)
          repeat' (first
              | (simp only [hno, onC_true, ↓wA, ↓wC, wB, frzBE, frzBS, Nat.reduceEqDiff, Nat.reduceAdd, Nat.reduceSub, reduceIte, reduceCtorEq, Nat.reduceBEq, Nat.reduceLT, decide_true])
              | (refine call_det (hI') rfl rfl ?_)
              | (refine callP_det (hI') rfl rfl ?_)
              | (refine call_det (hS') rfl rfl ?_)
              | (refine callP_det (hS') rfl rfl ?_)
              | (refine call_det (hA') rfl rfl ?_)
              | (refine callP_det (hA') rfl rfl ?_)
              | (refine call_det (hJ') rfl rfl ?_)
              | (refine callP_det (hJ') rfl rfl ?_)
              | (refine execG_split (fun h => ?_) (fun h => ?_) <;> simp only [h])
              | (refine execC_split (fun h => ?_) (fun h => ?_) <;> (try simp only [h]))
              | (refine onPick_split (fun h => ?_) (fun h => ?_) <;> (try simp only [h])))
          refine exec_gh1 (weak_of (s' := ⟨[(0, .d (.sl false 1 (bytesD code)))], []⟩) _ rfl ⟨⟨rfl, rfl⟩, trivial⟩) ?_
          exact rest.out
        | true =>
          have hR' := hR
          rw [Bool.and_eq_true] at hR
          obtain ⟨hg', hid2, hnil⟩ := lap_law (day := day) hR.1
          generalize hY : l.map (lap day) = ys at hg' hid2 hnil
          generalize hZ : lapIds day l = gone
          have hgl : gone.length ≤ 1048576 := by rw [← hZ]; exact few_ints hxl
          have hyl : ys.length ≤ 1048576 := by rw [← hY]; simp; omega
          have hyo : ∀ y ∈ ys, y.ok0 := by
            rw [← hY]
            intro y hy
            obtain ⟨x, hx, rfl⟩ := List.mem_map.1 hy
            have := hxo x hx
            unfold lap
            split
            · exact this
            · exact this
          have hI' : Fn prog 36 [.sl false 6 (appsD l), .int .i64 day] (fun rs => rs = [.sl true 6 (dl App.o ys), .sl true 1 (dl iD gone), .bool true]) := by rw [lapR, hR', hY, hZ] at hI; exact hI
          have hS' : Fn prog 37 [.sl false 6 (appsD l), .int .i64 day] (fun rs => rs = [.sl true 6 (dl App.d' ys), .sl true 1 (dl iD gone), .bool true]) := by rw [lapR, hR', hY, hZ] at hS; exact hS
          have hL2 : Fn prog 36 [.sl false 6 (dl App.o ys).unown, .int .i64 day] (fun rs => rs = [.sl true 6 (dl App.o ys), .sl true 1 (dl iD []), .bool true]) := by
            have h := lapse_fn ys day hyl hyo
            rw [lapR, hg', hR.2, hid2, hnil] at h
            rw [dlo_unown]; exact h
          have hA' : Fn prog 38 [.sl false 6 (dl App.o ys).unown, .sl false 6 (dl App.d' ys).unown] (fun rs => rs = [.bool true]) := by rw [dlo_unown, show (dl App.d' ys).unown = appsD ys from apps_unown ys]; exact rAppeals_refl ys hyl hyo
          have hA2 : Fn prog 38 [.sl false 6 (dl App.o ys).unown, .sl false 6 (dl App.o ys).unown] (fun rs => rs = [.bool true]) := by rw [dlo_unown]; exact rAppeals_refl ys hyl hyo
          have hJ' : Fn prog 27 [.sl false 1 (dl iD gone).unown, .sl false 1 (dl iD gone).unown] (fun rs => rs = [.bool true]) := by rw [ints_unown]; exact rInts_refl gone hgl
          have hl0 : (dl iD []).len = 0 := rfl
          have hz0 : decide (((0 : Nat) : Int) = 0) = true := rfl
          repeat' (first
              | (simp only [hno, onC_true, hl0, hz0, ↓wA, ↓wC, wB, frzBE, frzBS, Nat.reduceEqDiff, Nat.reduceAdd, Nat.reduceSub, reduceIte, reduceCtorEq, Nat.reduceBEq, Nat.reduceLT, decide_true])
              | (refine call_det (hI') rfl rfl ?_)
              | (refine callP_det (hI') rfl rfl ?_)
              | (refine call_det (hS') rfl rfl ?_)
              | (refine callP_det (hS') rfl rfl ?_)
              | (refine call_det (hA') rfl rfl ?_)
              | (refine callP_det (hA') rfl rfl ?_)
              | (refine call_det (hJ') rfl rfl ?_)
              | (refine callP_det (hJ') rfl rfl ?_)
              | (refine call_det (hA2) rfl rfl ?_)
              | (refine callP_det (hA2) rfl rfl ?_)
              | (refine call_det hL2 rfl (by simp [D.allOwn, dlo_own, dl_allOwn iD_allOwn]) ?_)
              | (refine execG_split (fun h => ?_) (fun h => ?_) <;> simp only [h])
              | (refine execC_split (fun h => ?_) (fun h => ?_) <;> (try simp only [h]))
              | (refine onPick_split (fun h => ?_) (fun h => ?_) <;> (try simp only [h])))
          refine exec_gh1 (weak_of (s' := ⟨[(0, .d (.sl false 1 (bytesD code)))], []⟩) _ rfl ⟨⟨rfl, rfl⟩, trivial⟩) ?_
          exact rest.out
      clear hxs hxl hxo hno
      simp only [↓wA, ↓wC, wB, frzBE, frzBS, Nat.reduceEqDiff, Nat.reduceAdd, Nat.reduceSub, reduceIte, reduceCtorEq, Nat.reduceBEq, Nat.reduceLT, decide_true]
      refine call_rel (drawDays_fn code hc) rfl fun rs h => ?_
      obtain ⟨u, id, on, rfl, hxs, hon1, hon2⟩ := h
      obtain ⟨hxl, hxo⟩ := drawn_ok hxs
      have hno := apps_noOwn u
      refine ⟨.inl rfl, ?_⟩
      apply cutT
      case m =>
        intro rest
        have hI := daysLeft_fn u id on hxl hxo
        have hS := specDaysLeft_fn u id on hxl hxo
        obtain ⟨m, b, hd, hm0, hm60, hlaw⟩ := days_law (xs := u) (id := id) (on := on)
        rw [hd] at hI hS
        have n1 : decide (m < 0) = false := decide_eq_false (by omega)
        have n2 : decide (60 < m) = false := decide_eq_false (by omega)
        have hL := lapse_fn u (on + 1) hxl hxo
        cases b with
        | false =>
          repeat' (first
              | (simp only [hno, n1, n2, onC_true, ↓wA, ↓wC, wB, frzBE, frzBS, Nat.reduceEqDiff, Nat.reduceAdd, Nat.reduceSub, reduceIte, reduceCtorEq, Nat.reduceBEq, Nat.reduceLT, decide_true])
              | (refine call_det (hI) rfl rfl ?_)
              | (refine callP_det (hI) rfl rfl ?_)
              | (refine call_det (hS) rfl rfl ?_)
              | (refine callP_det (hS) rfl rfl ?_)
              | (refine execG_split (fun h => ?_) (fun h => ?_) <;> simp only [h])
              | (refine execC_split (fun h => ?_) (fun h => ?_) <;> (try simp only [h]))
              | (refine onPick_split (fun h => ?_) (fun h => ?_) <;> (try simp only [h])))
          refine exec_gh1 (weak_of (s' := ⟨[(0, .d (.sl false 1 (bytesD code)))], []⟩) _ rfl ⟨⟨rfl, rfl⟩, trivial⟩) ?_
          exact rest.out
        | true =>
          have hlaw := hlaw rfl
          cases hR : goodA u && within (on + 1) 0 20000 with
          | false =>
            rw [lapR, hR] at hL
            have hL' : Fn prog 36 [.sl false 6 (appsD u), .int .i64 (on + 1)] (fun rs => rs = [.sl true 6 .nil, .sl true 1 .nil, .bool false]) := hL
            repeat' (first
                | (simp only [hno, n1, n2, onC_true, ↓wA, ↓wC, wB, frzBE, frzBS, Nat.reduceEqDiff, Nat.reduceAdd, Nat.reduceSub, reduceIte, reduceCtorEq, Nat.reduceBEq, Nat.reduceLT, decide_true])
                | (refine call_det (hI) rfl rfl ?_)
                | (refine callP_det (hI) rfl rfl ?_)
                | (refine call_det (hS) rfl rfl ?_)
                | (refine callP_det (hS) rfl rfl ?_)
                | (refine call_det (hL') rfl rfl ?_)
                | (refine callP_det (hL') rfl rfl ?_)
                | (with_reducible refine onI_bare ?_ ?_; focus (simp only [InR]; omega))
                | (refine execG_split (fun h => ?_) (fun h => ?_) <;> simp only [h])
                | (refine execC_split (fun h => ?_) (fun h => ?_) <;> (try simp only [h]))
                | (refine onPick_split (fun h => ?_) (fun h => ?_) <;> (try simp only [h])))
            refine exec_gh1 (weak_of (s' := ⟨[(0, .d (.sl false 1 (bytesD code)))], []⟩) _ rfl ⟨⟨rfl, rfl⟩, trivial⟩) ?_
            exact rest.out
          | true =>
            rw [lapR, hR] at hL
            have hL' : Fn prog 36 [.sl false 6 (appsD u), .int .i64 (on + 1)] (fun rs => rs = [.sl true 6 (dl App.o (u.map (lap (on + 1)))), .sl true 1 (dl iD (lapIds (on + 1) u)), .bool true]) := hL
            have hH : Fn prog 28 [.sl false 1 (dl iD (lapIds (on + 1) u)).unown, .int .i64 id] (fun rs => rs = [.bool (decide (m = 0))]) := by
              have h := rHas_fn (lapIds (on + 1) u) id (few_ints hxl)
              rw [hlaw] at h
              rw [ints_unown]; exact h
            have hxx : (!(decide (m = 0) == decide (m = 0))) = false := by simp
            repeat' (first
                | (simp only [hno, n1, n2, hxx, onC_true, ↓wA, ↓wC, wB, frzBE, frzBS, Nat.reduceEqDiff, Nat.reduceAdd, Nat.reduceSub, reduceIte, reduceCtorEq, Nat.reduceBEq, Nat.reduceLT, decide_true])
                | (refine call_det (hI) rfl rfl ?_)
                | (refine callP_det (hI) rfl rfl ?_)
                | (refine call_det (hS) rfl rfl ?_)
                | (refine callP_det (hS) rfl rfl ?_)
                | (refine call_det (hL') rfl rfl ?_)
                | (refine callP_det (hL') rfl rfl ?_)
                | (refine call_det (hH) rfl rfl ?_)
                | (refine callP_det (hH) rfl rfl ?_)
                | (with_reducible refine onI_bare ?_ ?_; focus (simp only [InR]; omega))
                | (refine execG_split (fun h => ?_) (fun h => ?_) <;> simp only [h])
                | (refine execC_split (fun h => ?_) (fun h => ?_) <;> (try simp only [h]))
                | (refine onPick_split (fun h => ?_) (fun h => ?_) <;> (try simp only [h])))
            refine exec_gh1 (weak_of (s' := ⟨[(0, .d (.sl false 1 (bytesD code)))], []⟩) _ rfl ⟨⟨rfl, rfl⟩, trivial⟩) ?_
            exact rest.out
      clear hxs hxl hxo hno
      simp only [↓wA, ↓wC, wB, frzBE, frzBS, Nat.reduceEqDiff, Nat.reduceAdd, Nat.reduceSub, reduceIte, reduceCtorEq, Nat.reduceBEq, Nat.reduceLT, decide_true]
      refine call_rel (drawBusiest_fn code hc) rfl fun rs h => ?_
      obtain ⟨v, rfl, hxs⟩ := h
      obtain ⟨hxl, hxo⟩ := drawn_ok hxs
      have hno := apps_noOwn v
      refine ⟨.inl rfl, ?_⟩
      have hI := busy_fn v hxl hxo
      have hS := specBusy_fn v hxl hxo
      obtain ⟨a, b, c, hbu⟩ := busyR_form v
      rw [hbu] at hI hS
      have hW := won_fn v hxl hxo
      have hV := specWon_fn v hxl hxo
      obtain ⟨m, n, g, hwn, hle⟩ := won_law v
      rw [hwn] at hW hV
      cases g with
      | false =>
        repeat' (first
            | (simp only [hno, onC_true, ↓wA, ↓wC, wB, frzBE, frzBS, Nat.reduceEqDiff, Nat.reduceAdd, Nat.reduceSub, reduceIte, reduceCtorEq, Nat.reduceBEq, Nat.reduceLT, decide_true])
            | (refine call_det (hI) rfl rfl ?_)
            | (refine callP_det (hI) rfl rfl ?_)
            | (refine call_det (hS) rfl rfl ?_)
            | (refine callP_det (hS) rfl rfl ?_)
            | (refine call_det (hW) rfl rfl ?_)
            | (refine callP_det (hW) rfl rfl ?_)
            | (refine call_det (hV) rfl rfl ?_)
            | (refine callP_det (hV) rfl rfl ?_)
            | (refine execG_split (fun h => ?_) (fun h => ?_) <;> simp only [h])
            | (refine execC_split (fun h => ?_) (fun h => ?_) <;> (try simp only [h]))
            | (refine onPick_split (fun h => ?_) (fun h => ?_) <;> (try simp only [h])))
        all_goals simp_all
      | true =>
        have hle := decide_eq_true (hle rfl)
        repeat' (first
            | (simp only [hno, hle, onC_true, ↓wA, ↓wC, wB, frzBE, frzBS, Nat.reduceEqDiff, Nat.reduceAdd, Nat.reduceSub, reduceIte, reduceCtorEq, Nat.reduceBEq, Nat.reduceLT, decide_true])
            | (refine call_det (hI) rfl rfl ?_)
            | (refine callP_det (hI) rfl rfl ?_)
            | (refine call_det (hS) rfl rfl ?_)
            | (refine callP_det (hS) rfl rfl ?_)
            | (refine call_det (hW) rfl rfl ?_)
            | (refine callP_det (hW) rfl rfl ?_)
            | (refine call_det (hV) rfl rfl ?_)
            | (refine callP_det (hV) rfl rfl ?_)
            | (refine execG_split (fun h => ?_) (fun h => ?_) <;> simp only [h])
            | (refine execC_split (fun h => ?_) (fun h => ?_) <;> (try simp only [h]))
            | (refine onPick_split (fun h => ?_) (fun h => ?_) <;> (try simp only [h])))
        all_goals simp_all
theorem lawFnParties (x0 : D) (h0 : Typed (.sl 1 (.int .u8)) x0) : Fn prog 5 [x0] (fun rs => rs = [.bool true]) := by
  obtain ⟨code, rfl⟩ := bytes_of x0 h0
  exact fnParties_fn code
end Go.Pe.Try
