/- The law of clearing, walked. -/
import Derived.Test.YtbkjloohaahmdaaW1
import Derived.Test.YtbkjloohaahmdaaW2
set_option maxRecDepth 100000
set_option maxHeartbeats 4000000
set_option linter.all false
namespace Go.Pe.Try
open Go.Proofs.Try
structure Held (p : Prop) : Prop where
  out : p
theorem cutT {G : Prop} (T : Prop) (m : Held T → G) (r : T) : G := m ⟨r⟩
theorem rests_form (st : Int) (xs : List Row) : ∃ v b, restsR st xs = [.sl true 1 (dl iD v), .bool b] ∧ v.length ≤ xs.length := by
  unfold restsR
  split
  · exact ⟨_, true, rfl, by rw [rests_len]; exact Nat.le_refl _⟩
  · exact ⟨[], false, rfl, by simp⟩
theorem fnClearing_fn (code : List UInt8) : Fn prog 4 [.sl false 1 (bytesD code)] (fun rs => rs = [.bool true]) := by
  have hB := rBig_fn code
  cases hb : decide ((65536 : Int) < (code.length : Int)) with
  | true =>
    rw [hb] at hB
    refine Fn_of' (fn := f4) (by exact func4) c4 r4 (n := 263) (by rfl) (rv := [.tmp 2]) (by rfl) (by simp) ?_
    unfold m4
    repeat' (first
        | (simp only [↓wA, ↓wC, wB, frzBE, frzBS, Nat.reduceEqDiff, Nat.reduceAdd, Nat.reduceSub, reduceIte, reduceCtorEq, Nat.reduceBEq, Nat.reduceLT, decide_true])
        | (refine call_det (hB) rfl rfl ?_)
        | (refine callP_det (hB) rfl rfl ?_)
        | (refine execG_split (fun h => ?_) (fun h => ?_) <;> simp only [h])
        | (refine execC_split (fun h => ?_) (fun h => ?_) <;> (try simp only [h]))
        | (refine onPick_split (fun h => ?_) (fun h => ?_) <;> (try simp only [h])))
  | false =>
    rw [hb] at hB
    have hc : code.length ≤ 1048576 := by have := of_decide_eq_false hb; omega
    refine Fn_ofg (ps := [[1, 1, 1, 1, 1, 1, 1, 1, 1, 1, 1, 1, 1, 1, 1, 1, 0], [1, 1, 1, 1, 1, 1, 1, 1, 1, 1, 1, 1, 0], [1, 1, 1, 1, 1, 1, 1, 0]]) (fn := f4) (by exact func4) c4 r4 (n := 263) (by rfl) (rv := [.tmp 2]) (by rfl) (by simp) ?_
    unfold m4
    simp only [ghAll, ghAt]
    repeat' (first
        | (simp only [↓wA, ↓wC, wB, frzBE, frzBS, Nat.reduceEqDiff, Nat.reduceAdd, Nat.reduceSub, reduceIte, reduceCtorEq, Nat.reduceBEq, Nat.reduceLT, decide_true])
        | (refine call_det (hB) rfl rfl ?_)
        | (refine callP_det (hB) rfl rfl ?_)
        | (refine execG_split (fun h => ?_) (fun h => ?_) <;> simp only [h])
        | (refine execC_split (fun h => ?_) (fun h => ?_) <;> (try simp only [h]))
        | (refine onPick_split (fun h => ?_) (fun h => ?_) <;> (try simp only [h])))
    refine call_rel (yDrawLargestRest_fn code hc) rfl fun rs h => ?_
    obtain ⟨st, xs, rfl, hxl, hs1, hs2⟩ := h
    have hno := rows_noOwn xs
    refine ⟨.inl rfl, ?_⟩
    apply cutT
    case m =>
      intro rest
      have hsr : InR .i64 st := ⟨by omega, by omega⟩
      obtain ⟨a, m, c, hI, hS, hlaw⟩ := largest_law st xs hsr (by omega)
      have hR := implRestsAfter_fn st xs (by omega)
      cases c with
      | false =>
        obtain ⟨v, b, hv, hvl⟩ := rests_form st xs
        rw [hv] at hR
        repeat' (first
            | (simp only [hno, onC_true, ↓wA, ↓wC, wB, frzBE, frzBS, Nat.reduceEqDiff, Nat.reduceAdd, Nat.reduceSub, reduceIte, reduceCtorEq, Nat.reduceBEq, Nat.reduceLT, decide_true])
            | (refine call_det (hI) rfl rfl ?_)
            | (refine callP_det (hI) rfl rfl ?_)
            | (refine call_det (hS) rfl rfl ?_)
            | (refine callP_det (hS) rfl rfl ?_)
            | (refine call_det (hR) rfl rfl ?_)
            | (refine callP_det (hR) rfl rfl ?_)
            | (refine execG_split (fun h => ?_) (fun h => ?_) <;> simp only [h])
            | (refine execC_split (fun h => ?_) (fun h => ?_) <;> (try simp only [h]))
            | (refine onPick_split (fun h => ?_) (fun h => ?_) <;> (try simp only [h])))
        refine exec_loop (fun _ : Unit => ⟨[(0, .d (.sl false 1 (bytesD code))), (6, .d (.int .i64 m)), (7, .d (.bool false)), (11, .own 0), (12, .d (.bool b)), (13, .d (.int .i64 0))], [.val (.sl true 1 (dl iD v))]⟩) (fun _ => True) (fun _ => 0) () (weak_of _ rfl ⟨⟨rfl, rfl⟩, ⟨rfl, rfl⟩, ⟨rfl, rfl⟩, ⟨rfl, rfl⟩, ⟨rfl, rfl⟩, ⟨rfl, rfl⟩, trivial⟩) trivial ?_
        rintro _ _
        repeat' (first
            | (simp only [dl_len, onC_true, ↓wA, ↓wC, wB, frzBE, frzBS, Nat.reduceEqDiff, Nat.reduceAdd, Nat.reduceSub, reduceIte, reduceCtorEq, Nat.reduceBEq, Nat.reduceLT, decide_true])
            | (refine execG_split (fun h => ?_) (fun h => ?_) <;> simp only [h])
            | (refine execC_split (fun h => ?_) (fun h => ?_) <;> (try simp only [h]))
            | (refine onPick_split (fun h => ?_) (fun h => ?_) <;> (try simp only [h])))
        all_goals
          refine exec_gh1 (weak_of (s' := ⟨[(0, .d (.sl false 1 (bytesD code)))], []⟩) _ rfl ⟨⟨rfl, rfl⟩, trivial⟩) ?_
          exact rest.out
      | true =>
        obtain ⟨hg, hmax⟩ := hlaw rfl
        rw [restsR, if_pos hg] at hR
        have hrl := rests_len xs st
        repeat' (first
            | (simp only [hno, onC_true, ↓wA, ↓wC, wB, frzBE, frzBS, Nat.reduceEqDiff, Nat.reduceAdd, Nat.reduceSub, reduceIte, reduceCtorEq, Nat.reduceBEq, Nat.reduceLT, decide_true])
            | (refine call_det (hI) rfl rfl ?_)
            | (refine callP_det (hI) rfl rfl ?_)
            | (refine call_det (hS) rfl rfl ?_)
            | (refine callP_det (hS) rfl rfl ?_)
            | (refine call_det (hR) rfl rfl ?_)
            | (refine callP_det (hR) rfl rfl ?_)
            | (refine execG_split (fun h => ?_) (fun h => ?_) <;> simp only [h])
            | (refine execC_split (fun h => ?_) (fun h => ?_) <;> (try simp only [h]))
            | (refine onPick_split (fun h => ?_) (fun h => ?_) <;> (try simp only [h])))
        refine exec_range (rests st xs).length (fun i : Nat => ⟨[(0, .d (.sl false 1 (bytesD code))), (6, .d (.int .i64 m)), (7, .d (.bool true)), (11, .own 0), (12, .d (.bool true)), (13, .d (.int .i64 i))], [.val (.sl true 1 (dl iD (rests st xs)))]⟩) (fun _ => True) (weak_of _ rfl ⟨⟨rfl, rfl⟩, ⟨rfl, rfl⟩, ⟨rfl, rfl⟩, ⟨rfl, rfl⟩, ⟨rfl, rfl⟩, ⟨rfl, rfl⟩, trivial⟩) trivial ?_ ?_
        · intro i hlt _ hd h0
          obtain ⟨w, hr⟩ := get_lt hlt
          have hle := hmax i w hr
          have hdw : decide (m < w) = false := decide_eq_false (by omega)
          repeat' (first
              | (simp only [dl_len, dl_nth, hd, h0, hr, hdw, Int.toNat_natCast, Option.map_some, rd_iD, onC_true, ↓wA, ↓wC, wB, frzBE, frzBS, Nat.reduceEqDiff, Nat.reduceAdd, Nat.reduceSub, reduceIte, reduceCtorEq, Nat.reduceBEq, Nat.reduceLT, decide_true])
              | (with_reducible refine onI_bare ?_ ?_; focus (simp only [InR]; omega))
              | (refine execG_split (fun h => ?_) (fun h => ?_) <;> simp only [h])
              | (refine execC_split (fun h => ?_) (fun h => ?_) <;> (try simp only [h]))
              | (refine onPick_split (fun h => ?_) (fun h => ?_) <;> (try simp only [h])))
          exact ⟨i + 1, (weak_of _ rfl ⟨⟨rfl, rfl⟩, ⟨rfl, rfl⟩, ⟨rfl, rfl⟩, ⟨rfl, rfl⟩, ⟨rfl, rfl⟩, ⟨rfl, rfl⟩, trivial⟩), by omega, by omega⟩
        · intro _ hd
          repeat' (first
              | (simp only [dl_len, hd, onC_true, ↓wA, ↓wC, wB, frzBE, frzBS, Nat.reduceEqDiff, Nat.reduceAdd, Nat.reduceSub, reduceIte, reduceCtorEq, Nat.reduceBEq, Nat.reduceLT, decide_true])
              | (refine execG_split (fun h => ?_) (fun h => ?_) <;> simp only [h])
              | (refine execC_split (fun h => ?_) (fun h => ?_) <;> (try simp only [h]))
              | (refine onPick_split (fun h => ?_) (fun h => ?_) <;> (try simp only [h])))
          refine exec_gh1 (weak_of (s' := ⟨[(0, .d (.sl false 1 (bytesD code)))], []⟩) _ rfl ⟨⟨rfl, rfl⟩, trivial⟩) ?_
          exact rest.out
    clear hxl hs1 hs2 hno
    simp only [↓wA, ↓wC, wB, frzBE, frzBS, Nat.reduceEqDiff, Nat.reduceAdd, Nat.reduceSub, reduceIte, reduceCtorEq, Nat.reduceBEq, Nat.reduceLT, decide_true]
    refine call_rel (yDrawYearsToClear_fn code hc) rfl fun rs h => ?_
    obtain ⟨s, l, rfl, hxl, hs1, hs2⟩ := h
    have hno := rows_noOwn l
    refine ⟨.inl rfl, ?_⟩
    apply cutT
    case m =>
      intro rest
      have hsr : InR .i64 s := ⟨by omega, by omega⟩
      have hI := yearsToClear_fn s l (by omega)
      have hS := specYearsToClear_fn s l hsr (by omega)
      obtain ⟨y, b, hy, hlaw⟩ := ytc_law s l
      rw [hy] at hI hS
      have hR := implRestsAfter_fn s l (by omega)
      cases b with
      | false =>
        obtain ⟨v, b, hv, hvl⟩ := rests_form s l
        rw [hv] at hR
        repeat' (first
            | (simp only [hno, dl_len, onC_true, ↓wA, ↓wC, wB, frzBE, frzBS, Nat.reduceEqDiff, Nat.reduceAdd, Nat.reduceSub, reduceIte, reduceCtorEq, Nat.reduceBEq, Nat.reduceLT, decide_true])
            | (refine call_det (hI) rfl rfl ?_)
            | (refine callP_det (hI) rfl rfl ?_)
            | (refine call_det (hS) rfl rfl ?_)
            | (refine callP_det (hS) rfl rfl ?_)
            | (refine call_det (hR) rfl rfl ?_)
            | (refine callP_det (hR) rfl rfl ?_)
            | (refine execG_split (fun h => ?_) (fun h => ?_) <;> simp only [h])
            | (refine execC_split (fun h => ?_) (fun h => ?_) <;> (try simp only [h]))
            | (refine onPick_split (fun h => ?_) (fun h => ?_) <;> (try simp only [h])))
        refine exec_gh1 (weak_of (s' := ⟨[(0, .d (.sl false 1 (bytesD code)))], []⟩) _ rfl ⟨⟨rfl, rfl⟩, trivial⟩) ?_
        exact rest.out
      | true =>
        obtain ⟨hg, hn, r, v, hr, hv, hok, hv0, hv1, hy0, hy1, p1, p2, p3⟩ := hlaw rfl
        have hob := ok_bounds hok
        rw [restsR, if_pos hg] at hR
        have hrl := rests_len l s
        have e0 : decide ((l.length : Int) = 0) = false := decide_eq_false (by omega)
        have hi0 : (0 : Int) ≤ (l.length : Int) - 1 := by omega
        have hn1 : ((l.length : Int) - 1).toNat = l.length - 1 := by omega
        have d1 : decide (y * (r.k + r.x + r.g) < v) = false := decide_eq_false (by omega)
        by_cases hyp : 0 < y
        · obtain ⟨p4, p5⟩ := p3 hyp
          have d2 : decide (0 < y) = true := decide_eq_true hyp
          have d3 : decide (v ≤ (y - 1) * (r.k + r.x + r.g)) = false := decide_eq_false (by omega)
          repeat' (first
              | (simp only [hno, dl_len, hrl, e0, hi0, hn1, dl_nth, hr, hv, d1, d2, d3, Option.map_some, rd_iD, ↓rd_row, Row.noOwn, row_size, row_isV, onC_true, ↓wA, ↓wC, wB, frzBE, frzBS, Nat.reduceEqDiff, Nat.reduceAdd, Nat.reduceSub, reduceIte, reduceCtorEq, Nat.reduceBEq, Nat.reduceLT, decide_true])
              | (refine call_det (hI) rfl rfl ?_)
              | (refine callP_det (hI) rfl rfl ?_)
              | (refine call_det (hS) rfl rfl ?_)
              | (refine callP_det (hS) rfl rfl ?_)
              | (refine call_det (hR) rfl rfl ?_)
              | (refine callP_det (hR) rfl rfl ?_)
              | (with_reducible refine onI_bare ?_ ?_; focus (simp only [InR]; omega))
              | (refine execG_split (fun h => ?_) (fun h => ?_) <;> simp only [h])
              | (refine execC_split (fun h => ?_) (fun h => ?_) <;> (try simp only [h]))
              | (refine onPick_split (fun h => ?_) (fun h => ?_) <;> (try simp only [h])))
          repeat' (first
              | (simp only [Row.d, dl_len, hrl, e0, hi0, hn1, dl_nth, hr, hv, d1, d2, d3, Option.map_some, rd_iD, onC_true, ↓wA, ↓wC, wB, frzBE, frzBS, Nat.reduceEqDiff, Nat.reduceAdd, Nat.reduceSub, reduceIte, reduceCtorEq, Nat.reduceBEq, Nat.reduceLT, decide_true])
              | (with_reducible refine onI_bare ?_ ?_; focus (simp only [InR]; omega))
              | (refine execG_split (fun h => ?_) (fun h => ?_) <;> simp only [h])
              | (refine execC_split (fun h => ?_) (fun h => ?_) <;> (try simp only [h]))
              | (refine onPick_split (fun h => ?_) (fun h => ?_) <;> (try simp only [h])))
          refine exec_gh1 (weak_of (s' := ⟨[(0, .d (.sl false 1 (bytesD code)))], []⟩) _ rfl ⟨⟨rfl, rfl⟩, trivial⟩) ?_
          exact rest.out
        · have d2 : decide (0 < y) = false := decide_eq_false hyp
          repeat' (first
              | (simp only [hno, dl_len, hrl, e0, hi0, hn1, dl_nth, hr, hv, d1, d2, Option.map_some, rd_iD, ↓rd_row, Row.noOwn, row_size, row_isV, onC_true, ↓wA, ↓wC, wB, frzBE, frzBS, Nat.reduceEqDiff, Nat.reduceAdd, Nat.reduceSub, reduceIte, reduceCtorEq, Nat.reduceBEq, Nat.reduceLT, decide_true])
              | (refine call_det (hI) rfl rfl ?_)
              | (refine callP_det (hI) rfl rfl ?_)
              | (refine call_det (hS) rfl rfl ?_)
              | (refine callP_det (hS) rfl rfl ?_)
              | (refine call_det (hR) rfl rfl ?_)
              | (refine callP_det (hR) rfl rfl ?_)
              | (with_reducible refine onI_bare ?_ ?_; focus (simp only [InR]; omega))
              | (refine execG_split (fun h => ?_) (fun h => ?_) <;> simp only [h])
              | (refine execC_split (fun h => ?_) (fun h => ?_) <;> (try simp only [h]))
              | (refine onPick_split (fun h => ?_) (fun h => ?_) <;> (try simp only [h])))
          repeat' (first
              | (simp only [Row.d, dl_len, hrl, e0, hi0, hn1, dl_nth, hr, hv, d1, d2, Option.map_some, rd_iD, onC_true, ↓wA, ↓wC, wB, frzBE, frzBS, Nat.reduceEqDiff, Nat.reduceAdd, Nat.reduceSub, reduceIte, reduceCtorEq, Nat.reduceBEq, Nat.reduceLT, decide_true])
              | (with_reducible refine onI_bare ?_ ?_; focus (simp only [InR]; omega))
              | (refine execG_split (fun h => ?_) (fun h => ?_) <;> simp only [h])
              | (refine execC_split (fun h => ?_) (fun h => ?_) <;> (try simp only [h]))
              | (refine onPick_split (fun h => ?_) (fun h => ?_) <;> (try simp only [h])))
          refine exec_gh1 (weak_of (s' := ⟨[(0, .d (.sl false 1 (bytesD code)))], []⟩) _ rfl ⟨⟨rfl, rfl⟩, trivial⟩) ?_
          exact rest.out
    clear hxl hs1 hs2 hno
    simp only [↓wA, ↓wC, wB, frzBE, frzBS, Nat.reduceEqDiff, Nat.reduceAdd, Nat.reduceSub, reduceIte, reduceCtorEq, Nat.reduceBEq, Nat.reduceLT, decide_true]
    refine call_rel (yDrawMissingYears_fn code hc) rfl fun rs h => ?_
    obtain ⟨t, u, rfl, hxl, hs1, hs2⟩ := h
    have hno := rows_noOwn u
    refine ⟨.inl rfl, ?_⟩
    apply cutT
    case m =>
      intro rest
      have hsr : InR .i64 t := ⟨by omega, by omega⟩
      have hI := missing_fn t u (by omega)
      have hS := specMissing_fn t u hsr (by omega)
      obtain ⟨v, b, hv, hvl, hlaw⟩ := miss_law t u
      rw [hv] at hI hS
      have hJ : Fn prog 27 [.sl false 1 (dl iD v).unown, .sl false 1 (dl iD v).unown] (fun rs => rs = [.bool true]) := by rw [ints_unown]; exact rInts_refl v hvl
      have hbb : (!(b == b)) = false := by cases b <;> rfl
      repeat' (first
          | (simp only [hno, hbb, onC_true, ↓wA, ↓wC, wB, frzBE, frzBS, Nat.reduceEqDiff, Nat.reduceAdd, Nat.reduceSub, reduceIte, reduceCtorEq, Nat.reduceBEq, Nat.reduceLT, decide_true])
          | (refine call_det (hI) rfl rfl ?_)
          | (refine callP_det (hI) rfl rfl ?_)
          | (refine call_det (hS) rfl rfl ?_)
          | (refine callP_det (hS) rfl rfl ?_)
          | (refine call_det (hJ) rfl rfl ?_)
          | (refine callP_det (hJ) rfl rfl ?_)
          | (refine execG_split (fun h => ?_) (fun h => ?_) <;> simp only [h])
          | (refine execC_split (fun h => ?_) (fun h => ?_) <;> (try simp only [h]))
          | (refine onPick_split (fun h => ?_) (fun h => ?_) <;> (try simp only [h])))
      refine exec_range u.length (fun i : Nat => ⟨[(0, .d (.sl false 1 (bytesD code))), (26, .d (.sl false 5 (rowsD u))), (27, .own 0), (31, .d (.int .i64 i))], [.val (.sl true 1 (dl iD v))]⟩) (fun _ => True) (weak_of _ rfl ⟨⟨rfl, rfl⟩, ⟨rfl, rfl⟩, ⟨rfl, rfl⟩, ⟨rfl, rfl⟩, trivial⟩) trivial ?_ ?_
      · intro i hlt _ hd h0
        obtain ⟨r, hr⟩ := get_lt hlt
        have hH : Fn prog 28 [.sl false 1 (dl iD v).unown, .int .i64 r.y] (fun rs => rs = [.bool false]) := by
          have h := rHas_fn v r.y hvl
          rw [hlaw r (List.mem_of_getElem? hr)] at h
          rw [ints_unown]; exact h
        repeat' (first
            | (simp only [dl_len, dl_nth, hd, h0, hr, Int.toNat_natCast, Option.map_some, ↓fa_row0, onC_true, ↓wA, ↓wC, wB, frzBE, frzBS, Nat.reduceEqDiff, Nat.reduceAdd, Nat.reduceSub, reduceIte, reduceCtorEq, Nat.reduceBEq, Nat.reduceLT, decide_true])
            | (refine call_det (hH) rfl rfl ?_)
            | (refine callP_det (hH) rfl rfl ?_)
            | (with_reducible refine onI_bare ?_ ?_; focus (simp only [InR]; omega))
            | (refine execG_split (fun h => ?_) (fun h => ?_) <;> simp only [h])
            | (refine execC_split (fun h => ?_) (fun h => ?_) <;> (try simp only [h]))
            | (refine onPick_split (fun h => ?_) (fun h => ?_) <;> (try simp only [h])))
        exact ⟨i + 1, (weak_of _ rfl ⟨⟨rfl, rfl⟩, ⟨rfl, rfl⟩, ⟨rfl, rfl⟩, ⟨rfl, rfl⟩, trivial⟩), by omega, by omega⟩
      · intro _ hd
        repeat' (first
            | (simp only [dl_len, hd, onC_true, ↓wA, ↓wC, wB, frzBE, frzBS, Nat.reduceEqDiff, Nat.reduceAdd, Nat.reduceSub, reduceIte, reduceCtorEq, Nat.reduceBEq, Nat.reduceLT, decide_true])
            | (refine execG_split (fun h => ?_) (fun h => ?_) <;> simp only [h])
            | (refine execC_split (fun h => ?_) (fun h => ?_) <;> (try simp only [h]))
            | (refine onPick_split (fun h => ?_) (fun h => ?_) <;> (try simp only [h])))
        refine exec_gh1 (weak_of (s' := ⟨[(0, .d (.sl false 1 (bytesD code)))], []⟩) _ rfl ⟨⟨rfl, rfl⟩, trivial⟩) ?_
        exact rest.out
    clear hxl hs1 hs2 hno
    simp only [↓wA, ↓wC, wB, frzBE, frzBS, Nat.reduceEqDiff, Nat.reduceAdd, Nat.reduceSub, reduceIte, reduceCtorEq, Nat.reduceBEq, Nat.reduceLT, decide_true]
    refine call_rel (yDrawDestroyedShare_fn code hc) rfl fun rs h => ?_
    obtain ⟨v, w, rfl, hxl, hs1, hs2⟩ := h
    have hno := rows_noOwn w
    refine ⟨.inl rfl, ?_⟩
    have hsr : InR .i64 v := ⟨by omega, by omega⟩
    have hI := share_fn v w (by omega)
    have hS := specShare_fn v w hsr (by omega)
    obtain ⟨m, n, g, hsh, hle⟩ := share_law v w
    rw [hsh] at hI hS
    cases g with
    | false =>
      repeat' (first
          | (simp only [hno, onC_true, ↓wA, ↓wC, wB, frzBE, frzBS, Nat.reduceEqDiff, Nat.reduceAdd, Nat.reduceSub, reduceIte, reduceCtorEq, Nat.reduceBEq, Nat.reduceLT, decide_true])
          | (refine call_det (hI) rfl rfl ?_)
          | (refine callP_det (hI) rfl rfl ?_)
          | (refine call_det (hS) rfl rfl ?_)
          | (refine callP_det (hS) rfl rfl ?_)
          | (refine execG_split (fun h => ?_) (fun h => ?_) <;> simp only [h])
          | (refine execC_split (fun h => ?_) (fun h => ?_) <;> (try simp only [h]))
          | (refine onPick_split (fun h => ?_) (fun h => ?_) <;> (try simp only [h])))
      all_goals simp_all
    | true =>
      have hle := decide_eq_true (hle rfl)
      repeat' (first
          | (simp only [hno, hle, onC_true, ↓wA, ↓wC, wB, frzBE, frzBS, Nat.reduceEqDiff, Nat.reduceAdd, Nat.reduceSub, reduceIte, reduceCtorEq, Nat.reduceBEq, Nat.reduceLT, decide_true])
          | (refine call_det (hI) rfl rfl ?_)
          | (refine callP_det (hI) rfl rfl ?_)
          | (refine call_det (hS) rfl rfl ?_)
          | (refine callP_det (hS) rfl rfl ?_)
          | (refine execG_split (fun h => ?_) (fun h => ?_) <;> simp only [h])
          | (refine execC_split (fun h => ?_) (fun h => ?_) <;> (try simp only [h]))
          | (refine onPick_split (fun h => ?_) (fun h => ?_) <;> (try simp only [h])))
      all_goals simp_all
theorem byte_of (x : D) (h : Typed (.int .u8) x) : ∃ b : UInt8, x = .int .u8 (b.toNat : Int) ∧ True := by
  obtain ⟨n, rfl, hn⟩ := h
  have hr : 0 ≤ n ∧ n ≤ 255 := by
    simp only [Lit.wf, Bool.and_eq_true, decide_eq_true_eq] at hn
    exact hn
  refine ⟨UInt8.ofNat n.toNat, ?_, trivial⟩
  have : (UInt8.ofNat n.toNat).toNat = n.toNat := by
    rw [UInt8.toNat_ofNat']
    omega
  rw [this, Int.toNat_of_nonneg hr.1]
theorem bytes_of (x : D) (h : Typed (.sl 1 (.int .u8)) x) : ∃ code : List UInt8, x = .sl false 1 (bytesD code) := by
  obtain ⟨ds, rfl, h1, h2⟩ := h
  obtain ⟨ys, h3, _, _⟩ := typed_list (f := fun b : UInt8 => D.int .u8 (b.toNat : Int)) (P := fun _ => True) byte_of ds h2
  exact ⟨ys, by rw [h3, bytesD_dl]⟩
theorem lawFnClearing (x0 : D) (h0 : Typed (.sl 1 (.int .u8)) x0) : Fn prog 4 [x0] (fun rs => rs = [.bool true]) := by
  obtain ⟨code, rfl⟩ := bytes_of x0 h0
  exact fnClearing_fn code
end Go.Pe.Try
