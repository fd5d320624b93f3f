/- The line of a year read again, walked; the law of ParseYear. -/
import Derived.Test.YthdkjfcndiaieaaDoorW1
set_option maxRecDepth 100000
set_option maxHeartbeats 4000000
set_option linter.all false
namespace Go.Pe.Tryd
open Go.Proofs.Tryd Go.Sort
theorem implParse_fn (s : List UInt8) (hl : s.length ≤ 1048576) : Fn prog 7 [.str s] (fun rs => rs = pyR s) := by
  have c1l := cut_le s [58, 32, 43]
  have h1 := cutN_fn s [58, 32, 43] (by omega)
  have hr : (rowI s) = ⟨dOf (Lib.cut s [58, 32, 43]).1, dOf (Lib.cut (Lib.cut s [58, 32, 43]).2.1 [32, 45]).1,
    min (dOf (Lib.cut (Lib.cut (Lib.cut s [58, 32, 43]).2.1 [32, 45]).2.1 [32, 40]).1 - max (dOf (cutSuf (Lib.cut (Lib.cut (Lib.cut s [58, 32, 43]).2.1 [32, 45]).2.1 [32, 40]).2.1 sufD)) 0) 9999,
    max (dOf (cutSuf (Lib.cut (Lib.cut (Lib.cut s [58, 32, 43]).2.1 [32, 45]).2.1 [32, 40]).2.1 sufD)) 0,
    (dOf (Lib.cut (Lib.cut (Lib.cut s [58, 32, 43]).2.1 [32, 45]).2.1 [32, 40]).1 - max (dOf (cutSuf (Lib.cut (Lib.cut (Lib.cut s [58, 32, 43]).2.1 [32, 45]).2.1 [32, 40]).2.1 sufD)) 0) -
      min (dOf (Lib.cut (Lib.cut (Lib.cut s [58, 32, 43]).2.1 [32, 45]).2.1 [32, 40]).1 - max (dOf (cutSuf (Lib.cut (Lib.cut (Lib.cut s [58, 32, 43]).2.1 [32, 45]).2.1 [32, 40]).2.1 sufD)) 0) 9999⟩ := rfl
  generalize hc1 : Lib.cut s [58, 32, 43] = c1 at *
  have c2l := cut_le c1.2.1 [32, 45]
  have h2 := cutN_fn c1.2.1 [32, 45] (by omega)
  generalize hc2 : Lib.cut c1.2.1 [32, 45] = c2 at *
  have c3l := cut_le c2.2.1 [32, 40]
  have h3 := cutN_fn c2.2.1 [32, 40] (by omega)
  generalize hc3 : Lib.cut c2.2.1 [32, 40] = c3 at *
  have h4 := cutSuf_fn c3.2.1 sufD (by omega)
  have c4l := cutSuf_le c3.2.1 sufD
  generalize hc4 : cutSuf c3.2.1 sufD = c4 at *
  have g1 := digitsOf_fn c1.1
  have g2 := digitsOf_fn c2.1
  have g3 := digitsOf_fn c3.1
  have g4 := digitsOf_fn c4
  have b3 := dOf_bd c3.1
  have b4 := dOf_bd c4
  unfold pyR pyOK
  have hV := isYearRow_fn (rowI s)
  generalize dOf c1.1 = y at *
  generalize dOf c2.1 = m at *
  generalize dOf c3.1 = t at *
  generalize dOf c4 = x at *
  have hY := yearLine_fn (rowI s)
  have hG := gone_fn (rowI s)
  rw [hr] at hV hY hG ⊢
  simp only [sufD] at h4
  simp only [Row.d] at hV hY hG
  have hmx : (if (0 : Int) ≤ x then x else 0) = max x 0 := by simp only [Int.max_def]; split <;> split <;> omega
  generalize hR : (⟨y, m, min (t - max x 0) 9999, max x 0, t - max x 0 - min (t - max x 0) 9999⟩ : Row) = R at *
  cases hok : R.ok with
  | false =>
    rw [hok] at hV
    refine Fn_of' (fn := f7) (by exact func7) c7 r7 (n := 76) (by rfl) (rv := [.tmp 2, .tmp 3, .tmp 4, .tmp 5]) (by rfl) (by simp) ?_
    unfold m7
    repeat' (first
        | (simp only [onC_true, ↓wA, ↓wC, wB, frzBE, frzBS, Nat.reduceEqDiff, Nat.reduceAdd, Nat.reduceSub, reduceIte, reduceCtorEq, Nat.reduceBEq, Nat.reduceLT, decide_true])
        | (refine call_det (h1) rfl rfl ?_)
        | (refine callP_det (h1) rfl rfl ?_)
        | (refine call_det (h2) rfl rfl ?_)
        | (refine callP_det (h2) rfl rfl ?_)
        | (refine call_det (h3) rfl rfl ?_)
        | (refine callP_det (h3) rfl rfl ?_)
        | (refine call_det (h4) rfl rfl ?_)
        | (refine callP_det (h4) rfl rfl ?_)
        | (refine call_det (g1) rfl rfl ?_)
        | (refine callP_det (g1) rfl rfl ?_)
        | (refine call_det (g2) rfl rfl ?_)
        | (refine callP_det (g2) rfl rfl ?_)
        | (refine call_det (g3) rfl rfl ?_)
        | (refine callP_det (g3) rfl rfl ?_)
        | (refine call_det (g4) rfl rfl ?_)
        | (refine callP_det (g4) rfl rfl ?_)
        | (refine call_det (hV) rfl rfl ?_)
        | (refine callP_det (hV) rfl rfl ?_)
        | (with_reducible refine onI_bare ?_ ?_; focus (simp only [InR]; omega))
        | (refine execG_split (fun h => ?_) (fun h => ?_) <;> simp only [h])
        | (refine execC_split (fun h => ?_) (fun h => ?_) <;> (try simp only [h]))
        | (refine onPick_split (fun h => ?_) (fun h => ?_) <;> (try simp only [h])))
  | true =>
    rw [hok] at hV
    have hY := hY hok
    have hG := hG hok
    by_cases he : yl R = s
    · have de : decide (yl R = s) = true := decide_eq_true he
      refine Fn_of' (fn := f7) (by exact func7) c7 r7 (n := 76) (by rfl) (rv := [.tmp 2, .tmp 3, .tmp 4, .tmp 5]) (by rfl) (by simp) ?_
      unfold m7
      repeat' (first
          | (simp only [onC_true, de, ↓wA, ↓wC, wB, frzBE, frzBS, Nat.reduceEqDiff, Nat.reduceAdd, Nat.reduceSub, reduceIte, reduceCtorEq, Nat.reduceBEq, Nat.reduceLT, decide_true])
          | (refine call_det (h1) rfl rfl ?_)
          | (refine callP_det (h1) rfl rfl ?_)
          | (refine call_det (h2) rfl rfl ?_)
          | (refine callP_det (h2) rfl rfl ?_)
          | (refine call_det (h3) rfl rfl ?_)
          | (refine callP_det (h3) rfl rfl ?_)
          | (refine call_det (h4) rfl rfl ?_)
          | (refine callP_det (h4) rfl rfl ?_)
          | (refine call_det (g1) rfl rfl ?_)
          | (refine callP_det (g1) rfl rfl ?_)
          | (refine call_det (g2) rfl rfl ?_)
          | (refine callP_det (g2) rfl rfl ?_)
          | (refine call_det (g3) rfl rfl ?_)
          | (refine callP_det (g3) rfl rfl ?_)
          | (refine call_det (g4) rfl rfl ?_)
          | (refine callP_det (g4) rfl rfl ?_)
          | (refine call_det (hV) rfl rfl ?_)
          | (refine callP_det (hV) rfl rfl ?_)
          | (refine call_det (hY) rfl rfl ?_)
          | (refine callP_det (hY) rfl rfl ?_)
          | (refine callP_det hG rfl rfl ?_)
          | (with_reducible refine onI_bare ?_ ?_; focus (simp only [InR]; omega))
          | (refine execG_split (fun h => ?_) (fun h => ?_) <;> simp only [h])
          | (refine execC_split (fun h => ?_) (fun h => ?_) <;> (try simp only [h]))
          | (refine onPick_split (fun h => ?_) (fun h => ?_) <;> (try simp only [h])))
      all_goals (subst hR; rfl)
    · have de : decide (yl R = s) = false := decide_eq_false he
      refine Fn_of' (fn := f7) (by exact func7) c7 r7 (n := 76) (by rfl) (rv := [.tmp 2, .tmp 3, .tmp 4, .tmp 5]) (by rfl) (by simp) ?_
      unfold m7
      repeat' (first
          | (simp only [onC_true, de, ↓wA, ↓wC, wB, frzBE, frzBS, Nat.reduceEqDiff, Nat.reduceAdd, Nat.reduceSub, reduceIte, reduceCtorEq, Nat.reduceBEq, Nat.reduceLT, decide_true])
          | (refine call_det (h1) rfl rfl ?_)
          | (refine callP_det (h1) rfl rfl ?_)
          | (refine call_det (h2) rfl rfl ?_)
          | (refine callP_det (h2) rfl rfl ?_)
          | (refine call_det (h3) rfl rfl ?_)
          | (refine callP_det (h3) rfl rfl ?_)
          | (refine call_det (h4) rfl rfl ?_)
          | (refine callP_det (h4) rfl rfl ?_)
          | (refine call_det (g1) rfl rfl ?_)
          | (refine callP_det (g1) rfl rfl ?_)
          | (refine call_det (g2) rfl rfl ?_)
          | (refine callP_det (g2) rfl rfl ?_)
          | (refine call_det (g3) rfl rfl ?_)
          | (refine callP_det (g3) rfl rfl ?_)
          | (refine call_det (g4) rfl rfl ?_)
          | (refine callP_det (g4) rfl rfl ?_)
          | (refine call_det (hV) rfl rfl ?_)
          | (refine callP_det (hV) rfl rfl ?_)
          | (refine call_det (hY) rfl rfl ?_)
          | (refine callP_det (hY) rfl rfl ?_)
          | (with_reducible refine onI_bare ?_ ?_; focus (simp only [InR]; omega))
          | (refine execG_split (fun h => ?_) (fun h => ?_) <;> simp only [h])
          | (refine execC_split (fun h => ?_) (fun h => ?_) <;> (try simp only [h]))
          | (refine onPick_split (fun h => ?_) (fun h => ?_) <;> (try simp only [h])))
theorem rdR_form (s : List UInt8) : rdR s = [.int .i64 (rdN s), .bool (readI s).isSome] := by
  unfold rdR rdN
  cases readI s <;> rfl
theorem l1ReadF_fn (s : List UInt8) (hl : s.length ≤ 100000000) : Fn prog 27 [.str s] (fun rs => rs = [.int .i64 (rdN s), .bool (readI s).isSome]) := by
  rw [← rdR_form]; exact l1Read_fn s hl
theorem l1Least_fn (a b : Int) : Fn prog 28 [.int .i64 a, .int .i64 b] (fun rs => rs = [.int .i64 (min a b)]) := by
  by_cases h : a < b
  · have hd : decide (a < b) = true := decide_eq_true h
    rw [Int.min_eq_left (by omega)]
    refine Fn_of' (fn := f28) (by exact func28) c28 r28 (n := 10) (by rfl) (rv := [.tmp 4]) (by rfl) (by simp) ?_
    unfold m28
    repeat' (first
        | (simp only [hd, ↓wA, ↓wC, wB, frzBE, frzBS, Nat.reduceEqDiff, Nat.reduceAdd, Nat.reduceSub, reduceIte, reduceCtorEq, Nat.reduceBEq, Nat.reduceLT, decide_true])
        | (refine execG_split (fun h => ?_) (fun h => ?_) <;> simp only [h])
        | (refine execC_split (fun h => ?_) (fun h => ?_) <;> (try simp only [h]))
        | (refine onPick_split (fun h => ?_) (fun h => ?_) <;> (try simp only [h])))
  · have hd : decide (a < b) = false := decide_eq_false h
    rw [Int.min_eq_right (by omega)]
    refine Fn_of' (fn := f28) (by exact func28) c28 r28 (n := 10) (by rfl) (rv := [.tmp 4]) (by rfl) (by simp) ?_
    unfold m28
    repeat' (first
        | (simp only [hd, ↓wA, ↓wC, wB, frzBE, frzBS, Nat.reduceEqDiff, Nat.reduceAdd, Nat.reduceSub, reduceIte, reduceCtorEq, Nat.reduceBEq, Nat.reduceLT, decide_true])
        | (refine execG_split (fun h => ?_) (fun h => ?_) <;> simp only [h])
        | (refine execC_split (fun h => ?_) (fun h => ?_) <;> (try simp only [h]))
        | (refine onPick_split (fun h => ?_) (fun h => ?_) <;> (try simp only [h])))
theorem noW (s : List UInt8) (h : wordsOf s = none) : spyR s = [.int .i64 0, .int .i64 0, .int .i64 0, .bool false] := by
  unfold spyR; rw [h]
theorem parts_le (x : UInt8) (s : List UInt8) : ∀ w ∈ parts x s, w.length ≤ s.length := by
  intro w hw
  unfold parts at hw
  rcases List.mem_append.1 hw with hw | hw
  · have : ∀ i, ∀ u ∈ (spl x s i).1, u.length ≤ s.length := by
      intro i
      induction i with
      | zero => intro u hu; simp [spl] at hu
      | succ i ih =>
        intro u hu
        simp only [spl] at hu
        split at hu
        · split at hu
          · rcases List.mem_append.1 hu with hu | hu
            · exact ih u hu
            · rw [List.mem_singleton.1 hu, List.length_drop, List.length_take]; omega
          · exact ih u hu
        · exact ih u hu
    exact this _ w hw
  · rw [List.mem_singleton.1 hw, List.length_drop]; omega
theorem specParse_fn (s : List UInt8) (hl : s.length ≤ 1048576) : Fn prog 6 [.str s] (fun rs => rs = spyR s) := by
  have hS := l1Split_fn s 32 (by omega)
  have hple := parts_le 32 s
  by_cases h60 : s.length ≤ 60
  case neg =>
    have d60 : decide ((60 : Int) < (s.length : Int)) = true := decide_eq_true (by omega)
    rw [noW s (by unfold wordsOf; split <;> first | rfl | (rw [if_neg (fun h => h60 h.1)]))]
    refine Fn_of' (fn := f6) (by exact func6) c6 r6 (n := 133) (by rfl) (rv := [.tmp 2, .tmp 3, .tmp 4, .tmp 5]) (by rfl) (by simp) ?_
    unfold m6
    repeat' (first
        | (simp only [d60, ↓wA, ↓wC, wB, frzBE, frzBS, Nat.reduceEqDiff, Nat.reduceAdd, Nat.reduceSub, reduceIte, reduceCtorEq, Nat.reduceBEq, Nat.reduceLT, decide_true])
        | (refine call_det (hS) rfl rfl ?_)
        | (refine callP_det (hS) rfl rfl ?_)
        | (refine execG_split (fun h => ?_) (fun h => ?_) <;> simp only [h])
        | (refine execC_split (fun h => ?_) (fun h => ?_) <;> (try simp only [h]))
        | (refine onPick_split (fun h => ?_) (fun h => ?_) <;> (try simp only [h])))
  have d60 : decide ((60 : Int) < (s.length : Int)) = false := decide_eq_false (by omega)
  have short : (parts 32 s).length < 3 → Fn prog 6 [.str s] (fun rs => rs = spyR s) := by
    intro h3
    have d3 : decide (((parts 32 s).length : Int) < 3) = true := decide_eq_true (by omega)
    rw [noW s (by
      unfold wordsOf
      split
      · rename_i w0 w1 w2 r hp
        rw [hp] at h3; simp at h3; omega
      · rfl)]
    refine Fn_of' (fn := f6) (by exact func6) c6 r6 (n := 133) (by rfl) (rv := [.tmp 2, .tmp 3, .tmp 4, .tmp 5]) (by rfl) (by simp) ?_
    unfold m6
    repeat' (first
        | (simp only [d60, dl_len, d3, ↓wA, ↓wC, wB, frzBE, frzBS, Nat.reduceEqDiff, Nat.reduceAdd, Nat.reduceSub, reduceIte, reduceCtorEq, Nat.reduceBEq, Nat.reduceLT, decide_true])
        | (refine call_det (hS) rfl rfl ?_)
        | (refine callP_det (hS) rfl rfl ?_)
        | (refine execG_split (fun h => ?_) (fun h => ?_) <;> simp only [h])
        | (refine execC_split (fun h => ?_) (fun h => ?_) <;> (try simp only [h]))
        | (refine onPick_split (fun h => ?_) (fun h => ?_) <;> (try simp only [h])))
  match hp : parts 32 s with
  | [] => exact short (by rw [hp]; simp)
  | [_] => exact short (by rw [hp]; simp)
  | [_, _] => exact short (by rw [hp]; simp)
  | w0 :: w1 :: w2 :: r =>
    clear short
    rw [hp] at hS hple
    have d3 : decide (((w0 :: w1 :: w2 :: r).length : Int) < 3) = false := decide_eq_false (by simp only [List.length_cons]; omega)
    generalize hWS : w0 :: w1 :: w2 :: r = ws at *
    have i0 : ws[(0 : Int).toNat]? = some w0 := by rw [← hWS]; rfl
    have i1 : ws[(1 : Int).toNat]? = some w1 := by rw [← hWS]; rfl
    have i2 : ws[(2 : Int).toNat]? = some w2 := by rw [← hWS]; rfl
    have l0 := hple w0 (List.mem_of_getElem? i0)
    have l1 := hple w1 (List.mem_of_getElem? i1)
    have l2 := hple w2 (List.mem_of_getElem? i2)
    by_cases h0 : 2 ≤ w0.length
    case neg =>
      have e0 : decide ((w0.length : Int) < 2) = true := decide_eq_true (by omega)
      rw [noW s (by unfold wordsOf; rw [hp, ← hWS]; simp only; rw [if_neg (fun h => h0 h.2.1)])]
      refine Fn_of' (fn := f6) (by exact func6) c6 r6 (n := 133) (by rfl) (rv := [.tmp 2, .tmp 3, .tmp 4, .tmp 5]) (by rfl) (by simp) ?_
      unfold m6
      repeat' (first
          | (simp only [d60, dl_len, d3, dl_nth, i0, e0, Option.map_some, onC_true, ↓wA, ↓wC, wB, frzBE, frzBS, Nat.reduceEqDiff, Nat.reduceAdd, Nat.reduceSub, reduceIte, reduceCtorEq, Nat.reduceBEq, Nat.reduceLT, decide_true])
          | (refine call_det (hS) rfl rfl ?_)
          | (refine callP_det (hS) rfl rfl ?_)
          | (with_reducible refine onC_i ?_ ?_; focus omega)
          | (refine execG_split (fun h => ?_) (fun h => ?_) <;> simp only [h])
          | (refine execC_split (fun h => ?_) (fun h => ?_) <;> (try simp only [h]))
          | (refine onPick_split (fun h => ?_) (fun h => ?_) <;> (try simp only [h])))
    have e0 : decide ((w0.length : Int) < 2) = false := decide_eq_false (by omega)
    by_cases h1 : 2 ≤ w1.length
    case neg =>
      have e1 : decide ((w1.length : Int) < 2) = true := decide_eq_true (by omega)
      rw [noW s (by unfold wordsOf; rw [hp, ← hWS]; simp only; rw [if_neg (fun h => h1 h.2.2.1)])]
      refine Fn_of' (fn := f6) (by exact func6) c6 r6 (n := 133) (by rfl) (rv := [.tmp 2, .tmp 3, .tmp 4, .tmp 5]) (by rfl) (by simp) ?_
      unfold m6
      repeat' (first
          | (simp only [d60, dl_len, d3, dl_nth, i0, e0, i1, e1, Option.map_some, onC_true, ↓wA, ↓wC, wB, frzBE, frzBS, Nat.reduceEqDiff, Nat.reduceAdd, Nat.reduceSub, reduceIte, reduceCtorEq, Nat.reduceBEq, Nat.reduceLT, decide_true])
          | (refine call_det (hS) rfl rfl ?_)
          | (refine callP_det (hS) rfl rfl ?_)
          | (with_reducible refine onC_i ?_ ?_; focus omega)
          | (refine execG_split (fun h => ?_) (fun h => ?_) <;> simp only [h])
          | (refine execC_split (fun h => ?_) (fun h => ?_) <;> (try simp only [h]))
          | (refine onPick_split (fun h => ?_) (fun h => ?_) <;> (try simp only [h])))
    have e1 : decide ((w1.length : Int) < 2) = false := decide_eq_false (by omega)
    by_cases h2 : 2 ≤ w2.length
    case neg =>
      have e2 : decide ((w2.length : Int) < 2) = true := decide_eq_true (by omega)
      rw [noW s (by unfold wordsOf; rw [hp, ← hWS]; simp only; rw [if_neg (fun h => h2 h.2.2.2)])]
      refine Fn_of' (fn := f6) (by exact func6) c6 r6 (n := 133) (by rfl) (rv := [.tmp 2, .tmp 3, .tmp 4, .tmp 5]) (by rfl) (by simp) ?_
      unfold m6
      repeat' (first
          | (simp only [d60, dl_len, d3, dl_nth, i0, e0, i1, e1, i2, e2, Option.map_some, onC_true, ↓wA, ↓wC, wB, frzBE, frzBS, Nat.reduceEqDiff, Nat.reduceAdd, Nat.reduceSub, reduceIte, reduceCtorEq, Nat.reduceBEq, Nat.reduceLT, decide_true])
          | (refine call_det (hS) rfl rfl ?_)
          | (refine callP_det (hS) rfl rfl ?_)
          | (with_reducible refine onC_i ?_ ?_; focus omega)
          | (refine execG_split (fun h => ?_) (fun h => ?_) <;> simp only [h])
          | (refine execC_split (fun h => ?_) (fun h => ?_) <;> (try simp only [h]))
          | (refine onPick_split (fun h => ?_) (fun h => ?_) <;> (try simp only [h])))
    have e2 : decide ((w2.length : Int) < 2) = false := decide_eq_false (by omega)
    have t0 : ((w0.length : Int) - 1).toNat = w0.length - 1 := by omega
    have R0 := l1ReadF_fn (w0.take (w0.length - 1)) (by rw [List.length_take]; omega)
    have R1 := l1ReadF_fn (w1.drop (1 : Int).toNat) (by rw [List.length_drop]; omega)
    have R2 := l1ReadF_fn (w2.drop (1 : Int).toNat) (by rw [List.length_drop]; omega)
    have b0 := rdN_bd (w0.take (w0.length - 1))
    have b1 := rdN_bd (w1.drop (1 : Int).toNat)
    have b2 := rdN_bd (w2.drop (1 : Int).toNat)
    have hw : ∀ d : Int, w3d r = d → wordsOf s = some ⟨w0, w1, w2, d⟩ := by
      intro d hd
      unfold wordsOf
      rw [hp, ← hWS]
      simp only
      rw [if_pos ⟨h60, h0, h1, h2⟩, hd]
    cases hr : r with
    | nil =>
      have hw := hw 0 (by rw [hr]; rfl)
      have d4 : decide ((3 : Int) < (ws.length : Int)) = false := decide_eq_false (by rw [← hWS, hr]; simp)
      cases hG : readI (w2.drop (1 : Int).toNat) with
      | none =>
        rw [hG] at R2
        have hspy := spyR_none hw hG
        rw [hspy]
        refine Fn_of' (fn := f6) (by exact func6) c6 r6 (n := 133) (by rfl) (rv := [.tmp 2, .tmp 3, .tmp 4, .tmp 5]) (by rfl) (by simp) ?_
        unfold m6
        repeat' (first
            | (simp only [d60, dl_len, d3, dl_nth, i0, e0, i1, e1, i2, e2, t0, d4, d4, d4, Option.map_some, Option.isSome, onC_true, ↓wA, ↓wC, wB, frzBE, frzBS, Nat.reduceEqDiff, Nat.reduceAdd, Nat.reduceSub, reduceIte, reduceCtorEq, Nat.reduceBEq, Nat.reduceLT, decide_true])
            | (refine call_det (hS) rfl rfl ?_)
            | (refine callP_det (hS) rfl rfl ?_)
            | (refine call_det (R0) rfl rfl ?_)
            | (refine callP_det (R0) rfl rfl ?_)
            | (refine call_det (R1) rfl rfl ?_)
            | (refine callP_det (R1) rfl rfl ?_)
            | (refine call_det (R2) rfl rfl ?_)
            | (refine callP_det (R2) rfl rfl ?_)
            | (refine call_det (hS) rfl rfl ?_)
            | (refine callP_det (hS) rfl rfl ?_)
            | (refine onJ_q ?_)
            | (with_reducible refine onI_bare ?_ ?_; focus (simp only [InR]; omega))
            | (with_reducible refine onC_i ?_ ?_; focus omega)
            | (refine execG_split (fun h => ?_) (fun h => ?_) <;> simp only [h])
            | (refine execC_split (fun h => ?_) (fun h => ?_) <;> (try simp only [h]))
            | (refine onPick_split (fun h => ?_) (fun h => ?_) <;> (try simp only [h])))
      | some g =>
        have hgN : rdN (w2.drop (1 : Int).toNat) = g := by unfold rdN; rw [hG]; rfl
        rw [hG, hgN] at R2
        rw [hgN] at b2
        simp only [Option.isSome] at R2
        have hspy := spyR_some hw hG
        simp only at hspy
        rw [hspy]
        have hrow : Wd.row ⟨w0, w1, w2, (0 : Int)⟩ g = ⟨rdN (w0.take (w0.length - 1)), rdN (w1.drop (1 : Int).toNat), min 9999 (g - (0 : Int)), (0 : Int), g - (0 : Int) - min 9999 (g - (0 : Int))⟩ := rfl
        have hL := l1Least_fn 9999 (g - (0 : Int))
        have hV := l26One_fn (Wd.row ⟨w0, w1, w2, (0 : Int)⟩ g)
        have hLn := l26Line_fn (Wd.row ⟨w0, w1, w2, (0 : Int)⟩ g)
        rw [hrow] at hV hLn ⊢
        simp only [Row.d] at hV hLn
        generalize rdN (w0.take (w0.length - 1)) = y at *
        generalize rdN (w1.drop (1 : Int).toNat) = m at *
        by_cases hd0 : 0 ≤ (0 : Int)
        case neg =>
          have dd0 : decide ((0 : Int) < 0) = true := decide_eq_true (by omega)
          rw [if_neg (fun h => hd0 h.1)]
          refine Fn_of' (fn := f6) (by exact func6) c6 r6 (n := 133) (by rfl) (rv := [.tmp 2, .tmp 3, .tmp 4, .tmp 5]) (by rfl) (by simp) ?_
          unfold m6
          repeat' (first
              | (simp only [d60, dl_len, d3, dl_nth, i0, e0, i1, e1, i2, e2, t0, d4, dd0, d4, d4, Option.map_some, Option.isSome, onC_true, ↓wA, ↓wC, wB, frzBE, frzBS, Nat.reduceEqDiff, Nat.reduceAdd, Nat.reduceSub, reduceIte, reduceCtorEq, Nat.reduceBEq, Nat.reduceLT, decide_true])
              | (refine call_det (hS) rfl rfl ?_)
              | (refine callP_det (hS) rfl rfl ?_)
              | (refine call_det (R0) rfl rfl ?_)
              | (refine callP_det (R0) rfl rfl ?_)
              | (refine call_det (R1) rfl rfl ?_)
              | (refine callP_det (R1) rfl rfl ?_)
              | (refine call_det (R2) rfl rfl ?_)
              | (refine callP_det (R2) rfl rfl ?_)
              | (refine call_det (hS) rfl rfl ?_)
              | (refine callP_det (hS) rfl rfl ?_)
              | (refine onJ_q ?_)
              | (with_reducible refine onI_bare ?_ ?_; focus (simp only [InR]; omega))
              | (with_reducible refine onC_i ?_ ?_; focus omega)
              | (refine execG_split (fun h => ?_) (fun h => ?_) <;> simp only [h])
              | (refine execC_split (fun h => ?_) (fun h => ?_) <;> (try simp only [h]))
              | (refine onPick_split (fun h => ?_) (fun h => ?_) <;> (try simp only [h])))
        have dd0 : decide ((0 : Int) < 0) = false := decide_eq_false (by omega)
        by_cases hdg : (0 : Int) ≤ g
        case neg =>
          have ddg : decide (g < (0 : Int)) = true := decide_eq_true (by omega)
          rw [if_neg (fun h => hdg h.2.1)]
          refine Fn_of' (fn := f6) (by exact func6) c6 r6 (n := 133) (by rfl) (rv := [.tmp 2, .tmp 3, .tmp 4, .tmp 5]) (by rfl) (by simp) ?_
          unfold m6
          repeat' (first
              | (simp only [d60, dl_len, d3, dl_nth, i0, e0, i1, e1, i2, e2, t0, d4, dd0, ddg, d4, d4, Option.map_some, Option.isSome, onC_true, ↓wA, ↓wC, wB, frzBE, frzBS, Nat.reduceEqDiff, Nat.reduceAdd, Nat.reduceSub, reduceIte, reduceCtorEq, Nat.reduceBEq, Nat.reduceLT, decide_true])
              | (refine call_det (hS) rfl rfl ?_)
              | (refine callP_det (hS) rfl rfl ?_)
              | (refine call_det (R0) rfl rfl ?_)
              | (refine callP_det (R0) rfl rfl ?_)
              | (refine call_det (R1) rfl rfl ?_)
              | (refine callP_det (R1) rfl rfl ?_)
              | (refine call_det (R2) rfl rfl ?_)
              | (refine callP_det (R2) rfl rfl ?_)
              | (refine call_det (hS) rfl rfl ?_)
              | (refine callP_det (hS) rfl rfl ?_)
              | (refine onJ_q ?_)
              | (with_reducible refine onI_bare ?_ ?_; focus (simp only [InR]; omega))
              | (with_reducible refine onC_i ?_ ?_; focus omega)
              | (refine execG_split (fun h => ?_) (fun h => ?_) <;> simp only [h])
              | (refine execC_split (fun h => ?_) (fun h => ?_) <;> (try simp only [h]))
              | (refine onPick_split (fun h => ?_) (fun h => ?_) <;> (try simp only [h])))
        have ddg : decide (g < (0 : Int)) = false := decide_eq_false (by omega)
        generalize hRR : (⟨y, m, min 9999 (g - (0 : Int)), (0 : Int), g - (0 : Int) - min 9999 (g - (0 : Int))⟩ : Row) = R at *
        cases hok : R.ok with
        | false =>
          rw [hok] at hV
          rw [if_neg (fun h => by cases h.2.2.1)]
          refine Fn_of' (fn := f6) (by exact func6) c6 r6 (n := 133) (by rfl) (rv := [.tmp 2, .tmp 3, .tmp 4, .tmp 5]) (by rfl) (by simp) ?_
          unfold m6
          repeat' (first
              | (simp only [d60, dl_len, d3, dl_nth, i0, e0, i1, e1, i2, e2, t0, d4, dd0, ddg, d4, d4, Option.map_some, Option.isSome, onC_true, ↓wA, ↓wC, wB, frzBE, frzBS, Nat.reduceEqDiff, Nat.reduceAdd, Nat.reduceSub, reduceIte, reduceCtorEq, Nat.reduceBEq, Nat.reduceLT, decide_true])
              | (refine call_det (hS) rfl rfl ?_)
              | (refine callP_det (hS) rfl rfl ?_)
              | (refine call_det (R0) rfl rfl ?_)
              | (refine callP_det (R0) rfl rfl ?_)
              | (refine call_det (R1) rfl rfl ?_)
              | (refine callP_det (R1) rfl rfl ?_)
              | (refine call_det (R2) rfl rfl ?_)
              | (refine callP_det (R2) rfl rfl ?_)
              | (refine call_det (hL) rfl rfl ?_)
              | (refine callP_det (hL) rfl rfl ?_)
              | (refine call_det (hV) rfl rfl ?_)
              | (refine callP_det (hV) rfl rfl ?_)
              | (refine call_det (hS) rfl rfl ?_)
              | (refine callP_det (hS) rfl rfl ?_)
              | (refine onJ_q ?_)
              | (with_reducible refine onI_bare ?_ ?_; focus (simp only [InR]; omega))
              | (with_reducible refine onC_i ?_ ?_; focus omega)
              | (refine execG_split (fun h => ?_) (fun h => ?_) <;> simp only [h])
              | (refine execC_split (fun h => ?_) (fun h => ?_) <;> (try simp only [h]))
              | (refine onPick_split (fun h => ?_) (fun h => ?_) <;> (try simp only [h])))
        | true =>
          rw [hok] at hV
          have hLn := hLn hok
          by_cases he : yl R = s
          · have de : decide (yl R = s) = true := decide_eq_true he
            rw [if_pos ⟨hd0, hdg, rfl, he⟩]
            refine Fn_of' (fn := f6) (by exact func6) c6 r6 (n := 133) (by rfl) (rv := [.tmp 2, .tmp 3, .tmp 4, .tmp 5]) (by rfl) (by simp) ?_
            unfold m6
            repeat' (first
                | (simp only [d60, dl_len, d3, dl_nth, i0, e0, i1, e1, i2, e2, t0, d4, dd0, ddg, de, d4, d4, Option.map_some, Option.isSome, onC_true, ↓wA, ↓wC, wB, frzBE, frzBS, Nat.reduceEqDiff, Nat.reduceAdd, Nat.reduceSub, reduceIte, reduceCtorEq, Nat.reduceBEq, Nat.reduceLT, decide_true])
                | (refine call_det (hS) rfl rfl ?_)
                | (refine callP_det (hS) rfl rfl ?_)
                | (refine call_det (R0) rfl rfl ?_)
                | (refine callP_det (R0) rfl rfl ?_)
                | (refine call_det (R1) rfl rfl ?_)
                | (refine callP_det (R1) rfl rfl ?_)
                | (refine call_det (R2) rfl rfl ?_)
                | (refine callP_det (R2) rfl rfl ?_)
                | (refine call_det (hL) rfl rfl ?_)
                | (refine callP_det (hL) rfl rfl ?_)
                | (refine call_det (hV) rfl rfl ?_)
                | (refine callP_det (hV) rfl rfl ?_)
                | (refine call_det (hLn) rfl rfl ?_)
                | (refine callP_det (hLn) rfl rfl ?_)
                | (refine call_det (hS) rfl rfl ?_)
                | (refine callP_det (hS) rfl rfl ?_)
                | (refine onJ_q ?_)
                | (with_reducible refine onI_bare ?_ ?_; focus (simp only [InR]; omega))
                | (with_reducible refine onC_i ?_ ?_; focus omega)
                | (refine execG_split (fun h => ?_) (fun h => ?_) <;> simp only [h])
                | (refine execC_split (fun h => ?_) (fun h => ?_) <;> (try simp only [h]))
                | (refine onPick_split (fun h => ?_) (fun h => ?_) <;> (try simp only [h])))
            all_goals (subst hRR; rfl)
          · have de : decide (yl R = s) = false := decide_eq_false he
            rw [if_neg (fun h => he h.2.2.2)]
            refine Fn_of' (fn := f6) (by exact func6) c6 r6 (n := 133) (by rfl) (rv := [.tmp 2, .tmp 3, .tmp 4, .tmp 5]) (by rfl) (by simp) ?_
            unfold m6
            repeat' (first
                | (simp only [d60, dl_len, d3, dl_nth, i0, e0, i1, e1, i2, e2, t0, d4, dd0, ddg, de, d4, d4, Option.map_some, Option.isSome, onC_true, ↓wA, ↓wC, wB, frzBE, frzBS, Nat.reduceEqDiff, Nat.reduceAdd, Nat.reduceSub, reduceIte, reduceCtorEq, Nat.reduceBEq, Nat.reduceLT, decide_true])
                | (refine call_det (hS) rfl rfl ?_)
                | (refine callP_det (hS) rfl rfl ?_)
                | (refine call_det (R0) rfl rfl ?_)
                | (refine callP_det (R0) rfl rfl ?_)
                | (refine call_det (R1) rfl rfl ?_)
                | (refine callP_det (R1) rfl rfl ?_)
                | (refine call_det (R2) rfl rfl ?_)
                | (refine callP_det (R2) rfl rfl ?_)
                | (refine call_det (hL) rfl rfl ?_)
                | (refine callP_det (hL) rfl rfl ?_)
                | (refine call_det (hV) rfl rfl ?_)
                | (refine callP_det (hV) rfl rfl ?_)
                | (refine call_det (hLn) rfl rfl ?_)
                | (refine callP_det (hLn) rfl rfl ?_)
                | (refine call_det (hS) rfl rfl ?_)
                | (refine callP_det (hS) rfl rfl ?_)
                | (refine onJ_q ?_)
                | (with_reducible refine onI_bare ?_ ?_; focus (simp only [InR]; omega))
                | (with_reducible refine onC_i ?_ ?_; focus omega)
                | (refine execG_split (fun h => ?_) (fun h => ?_) <;> simp only [h])
                | (refine execC_split (fun h => ?_) (fun h => ?_) <;> (try simp only [h]))
                | (refine onPick_split (fun h => ?_) (fun h => ?_) <;> (try simp only [h])))
    | cons w3 r' =>
      have i3 : ws[(3 : Int).toNat]? = some w3 := by rw [← hWS, hr]; rfl
      have l3 := hple w3 (List.mem_of_getElem? i3)
      have d4 : decide ((3 : Int) < (ws.length : Int)) = true := decide_eq_true (by rw [← hWS, hr]; simp only [List.length_cons]; omega)
      by_cases h3 : 1 < w3.length
      · have hw := hw (rdN (w3.drop (1 : Int).toNat)) (by rw [hr]; simp only [w3d]; rw [if_pos h3]; rfl)
        have e3 : decide ((1 : Int) < (w3.length : Int)) = true := decide_eq_true (by omega)
        have R3 := l1ReadF_fn (w3.drop (1 : Int).toNat) (by rw [List.length_drop]; omega)
        have b3 := rdN_bd (w3.drop (1 : Int).toNat)
        generalize hX : rdN (w3.drop (1 : Int).toNat) = X at *
        cases hG : readI (w2.drop (1 : Int).toNat) with
        | none =>
          rw [hG] at R2
          have hspy := spyR_none hw hG
          rw [hspy]
          refine Fn_of' (fn := f6) (by exact func6) c6 r6 (n := 133) (by rfl) (rv := [.tmp 2, .tmp 3, .tmp 4, .tmp 5]) (by rfl) (by simp) ?_
          unfold m6
          repeat' (first
              | (simp only [d60, dl_len, d3, dl_nth, i0, e0, i1, e1, i2, e2, t0, d4, i3, e3, Option.map_some, Option.isSome, onC_true, ↓wA, ↓wC, wB, frzBE, frzBS, Nat.reduceEqDiff, Nat.reduceAdd, Nat.reduceSub, reduceIte, reduceCtorEq, Nat.reduceBEq, Nat.reduceLT, decide_true])
              | (refine call_det (hS) rfl rfl ?_)
              | (refine callP_det (hS) rfl rfl ?_)
              | (refine call_det (R0) rfl rfl ?_)
              | (refine callP_det (R0) rfl rfl ?_)
              | (refine call_det (R1) rfl rfl ?_)
              | (refine callP_det (R1) rfl rfl ?_)
              | (refine call_det (R2) rfl rfl ?_)
              | (refine callP_det (R2) rfl rfl ?_)
              | (refine call_det (R3) rfl rfl ?_)
              | (refine callP_det (R3) rfl rfl ?_)
              | (refine onJ_q ?_)
              | (with_reducible refine onI_bare ?_ ?_; focus (simp only [InR]; omega))
              | (with_reducible refine onC_i ?_ ?_; focus omega)
              | (refine execG_split (fun h => ?_) (fun h => ?_) <;> simp only [h])
              | (refine execC_split (fun h => ?_) (fun h => ?_) <;> (try simp only [h]))
              | (refine onPick_split (fun h => ?_) (fun h => ?_) <;> (try simp only [h])))
        | some g =>
          have hgN : rdN (w2.drop (1 : Int).toNat) = g := by unfold rdN; rw [hG]; rfl
          rw [hG, hgN] at R2
          rw [hgN] at b2
          simp only [Option.isSome] at R2
          have hspy := spyR_some hw hG
          simp only at hspy
          rw [hspy]
          have hrow : Wd.row ⟨w0, w1, w2, X⟩ g = ⟨rdN (w0.take (w0.length - 1)), rdN (w1.drop (1 : Int).toNat), min 9999 (g - X), X, g - X - min 9999 (g - X)⟩ := rfl
          have hL := l1Least_fn 9999 (g - X)
          have hV := l26One_fn (Wd.row ⟨w0, w1, w2, X⟩ g)
          have hLn := l26Line_fn (Wd.row ⟨w0, w1, w2, X⟩ g)
          rw [hrow] at hV hLn ⊢
          simp only [Row.d] at hV hLn
          generalize rdN (w0.take (w0.length - 1)) = y at *
          generalize rdN (w1.drop (1 : Int).toNat) = m at *
          by_cases hd0 : 0 ≤ X
          case neg =>
            have dd0 : decide (X < 0) = true := decide_eq_true (by omega)
            rw [if_neg (fun h => hd0 h.1)]
            refine Fn_of' (fn := f6) (by exact func6) c6 r6 (n := 133) (by rfl) (rv := [.tmp 2, .tmp 3, .tmp 4, .tmp 5]) (by rfl) (by simp) ?_
            unfold m6
            repeat' (first
                | (simp only [d60, dl_len, d3, dl_nth, i0, e0, i1, e1, i2, e2, t0, d4, dd0, i3, e3, Option.map_some, Option.isSome, onC_true, ↓wA, ↓wC, wB, frzBE, frzBS, Nat.reduceEqDiff, Nat.reduceAdd, Nat.reduceSub, reduceIte, reduceCtorEq, Nat.reduceBEq, Nat.reduceLT, decide_true])
                | (refine call_det (hS) rfl rfl ?_)
                | (refine callP_det (hS) rfl rfl ?_)
                | (refine call_det (R0) rfl rfl ?_)
                | (refine callP_det (R0) rfl rfl ?_)
                | (refine call_det (R1) rfl rfl ?_)
                | (refine callP_det (R1) rfl rfl ?_)
                | (refine call_det (R2) rfl rfl ?_)
                | (refine callP_det (R2) rfl rfl ?_)
                | (refine call_det (R3) rfl rfl ?_)
                | (refine callP_det (R3) rfl rfl ?_)
                | (refine onJ_q ?_)
                | (with_reducible refine onI_bare ?_ ?_; focus (simp only [InR]; omega))
                | (with_reducible refine onC_i ?_ ?_; focus omega)
                | (refine execG_split (fun h => ?_) (fun h => ?_) <;> simp only [h])
                | (refine execC_split (fun h => ?_) (fun h => ?_) <;> (try simp only [h]))
                | (refine onPick_split (fun h => ?_) (fun h => ?_) <;> (try simp only [h])))
          have dd0 : decide (X < 0) = false := decide_eq_false (by omega)
          by_cases hdg : X ≤ g
          case neg =>
            have ddg : decide (g < X) = true := decide_eq_true (by omega)
            rw [if_neg (fun h => hdg h.2.1)]
            refine Fn_of' (fn := f6) (by exact func6) c6 r6 (n := 133) (by rfl) (rv := [.tmp 2, .tmp 3, .tmp 4, .tmp 5]) (by rfl) (by simp) ?_
            unfold m6
            repeat' (first
                | (simp only [d60, dl_len, d3, dl_nth, i0, e0, i1, e1, i2, e2, t0, d4, dd0, ddg, i3, e3, Option.map_some, Option.isSome, onC_true, ↓wA, ↓wC, wB, frzBE, frzBS, Nat.reduceEqDiff, Nat.reduceAdd, Nat.reduceSub, reduceIte, reduceCtorEq, Nat.reduceBEq, Nat.reduceLT, decide_true])
                | (refine call_det (hS) rfl rfl ?_)
                | (refine callP_det (hS) rfl rfl ?_)
                | (refine call_det (R0) rfl rfl ?_)
                | (refine callP_det (R0) rfl rfl ?_)
                | (refine call_det (R1) rfl rfl ?_)
                | (refine callP_det (R1) rfl rfl ?_)
                | (refine call_det (R2) rfl rfl ?_)
                | (refine callP_det (R2) rfl rfl ?_)
                | (refine call_det (R3) rfl rfl ?_)
                | (refine callP_det (R3) rfl rfl ?_)
                | (refine onJ_q ?_)
                | (with_reducible refine onI_bare ?_ ?_; focus (simp only [InR]; omega))
                | (with_reducible refine onC_i ?_ ?_; focus omega)
                | (refine execG_split (fun h => ?_) (fun h => ?_) <;> simp only [h])
                | (refine execC_split (fun h => ?_) (fun h => ?_) <;> (try simp only [h]))
                | (refine onPick_split (fun h => ?_) (fun h => ?_) <;> (try simp only [h])))
          have ddg : decide (g < X) = false := decide_eq_false (by omega)
          generalize hRR : (⟨y, m, min 9999 (g - X), X, g - X - min 9999 (g - X)⟩ : Row) = R at *
          cases hok : R.ok with
          | false =>
            rw [hok] at hV
            rw [if_neg (fun h => by cases h.2.2.1)]
            refine Fn_of' (fn := f6) (by exact func6) c6 r6 (n := 133) (by rfl) (rv := [.tmp 2, .tmp 3, .tmp 4, .tmp 5]) (by rfl) (by simp) ?_
            unfold m6
            repeat' (first
                | (simp only [d60, dl_len, d3, dl_nth, i0, e0, i1, e1, i2, e2, t0, d4, dd0, ddg, i3, e3, Option.map_some, Option.isSome, onC_true, ↓wA, ↓wC, wB, frzBE, frzBS, Nat.reduceEqDiff, Nat.reduceAdd, Nat.reduceSub, reduceIte, reduceCtorEq, Nat.reduceBEq, Nat.reduceLT, decide_true])
                | (refine call_det (hS) rfl rfl ?_)
                | (refine callP_det (hS) rfl rfl ?_)
                | (refine call_det (R0) rfl rfl ?_)
                | (refine callP_det (R0) rfl rfl ?_)
                | (refine call_det (R1) rfl rfl ?_)
                | (refine callP_det (R1) rfl rfl ?_)
                | (refine call_det (R2) rfl rfl ?_)
                | (refine callP_det (R2) rfl rfl ?_)
                | (refine call_det (hL) rfl rfl ?_)
                | (refine callP_det (hL) rfl rfl ?_)
                | (refine call_det (hV) rfl rfl ?_)
                | (refine callP_det (hV) rfl rfl ?_)
                | (refine call_det (R3) rfl rfl ?_)
                | (refine callP_det (R3) rfl rfl ?_)
                | (refine onJ_q ?_)
                | (with_reducible refine onI_bare ?_ ?_; focus (simp only [InR]; omega))
                | (with_reducible refine onC_i ?_ ?_; focus omega)
                | (refine execG_split (fun h => ?_) (fun h => ?_) <;> simp only [h])
                | (refine execC_split (fun h => ?_) (fun h => ?_) <;> (try simp only [h]))
                | (refine onPick_split (fun h => ?_) (fun h => ?_) <;> (try simp only [h])))
          | true =>
            rw [hok] at hV
            have hLn := hLn hok
            by_cases he : yl R = s
            · have de : decide (yl R = s) = true := decide_eq_true he
              rw [if_pos ⟨hd0, hdg, rfl, he⟩]
              refine Fn_of' (fn := f6) (by exact func6) c6 r6 (n := 133) (by rfl) (rv := [.tmp 2, .tmp 3, .tmp 4, .tmp 5]) (by rfl) (by simp) ?_
              unfold m6
              repeat' (first
                  | (simp only [d60, dl_len, d3, dl_nth, i0, e0, i1, e1, i2, e2, t0, d4, dd0, ddg, de, i3, e3, Option.map_some, Option.isSome, onC_true, ↓wA, ↓wC, wB, frzBE, frzBS, Nat.reduceEqDiff, Nat.reduceAdd, Nat.reduceSub, reduceIte, reduceCtorEq, Nat.reduceBEq, Nat.reduceLT, decide_true])
                  | (refine call_det (hS) rfl rfl ?_)
                  | (refine callP_det (hS) rfl rfl ?_)
                  | (refine call_det (R0) rfl rfl ?_)
                  | (refine callP_det (R0) rfl rfl ?_)
                  | (refine call_det (R1) rfl rfl ?_)
                  | (refine callP_det (R1) rfl rfl ?_)
                  | (refine call_det (R2) rfl rfl ?_)
                  | (refine callP_det (R2) rfl rfl ?_)
                  | (refine call_det (hL) rfl rfl ?_)
                  | (refine callP_det (hL) rfl rfl ?_)
                  | (refine call_det (hV) rfl rfl ?_)
                  | (refine callP_det (hV) rfl rfl ?_)
                  | (refine call_det (hLn) rfl rfl ?_)
                  | (refine callP_det (hLn) rfl rfl ?_)
                  | (refine call_det (R3) rfl rfl ?_)
                  | (refine callP_det (R3) rfl rfl ?_)
                  | (refine onJ_q ?_)
                  | (with_reducible refine onI_bare ?_ ?_; focus (simp only [InR]; omega))
                  | (with_reducible refine onC_i ?_ ?_; focus omega)
                  | (refine execG_split (fun h => ?_) (fun h => ?_) <;> simp only [h])
                  | (refine execC_split (fun h => ?_) (fun h => ?_) <;> (try simp only [h]))
                  | (refine onPick_split (fun h => ?_) (fun h => ?_) <;> (try simp only [h])))
              all_goals (subst hRR; rfl)
            · have de : decide (yl R = s) = false := decide_eq_false he
              rw [if_neg (fun h => he h.2.2.2)]
              refine Fn_of' (fn := f6) (by exact func6) c6 r6 (n := 133) (by rfl) (rv := [.tmp 2, .tmp 3, .tmp 4, .tmp 5]) (by rfl) (by simp) ?_
              unfold m6
              repeat' (first
                  | (simp only [d60, dl_len, d3, dl_nth, i0, e0, i1, e1, i2, e2, t0, d4, dd0, ddg, de, i3, e3, Option.map_some, Option.isSome, onC_true, ↓wA, ↓wC, wB, frzBE, frzBS, Nat.reduceEqDiff, Nat.reduceAdd, Nat.reduceSub, reduceIte, reduceCtorEq, Nat.reduceBEq, Nat.reduceLT, decide_true])
                  | (refine call_det (hS) rfl rfl ?_)
                  | (refine callP_det (hS) rfl rfl ?_)
                  | (refine call_det (R0) rfl rfl ?_)
                  | (refine callP_det (R0) rfl rfl ?_)
                  | (refine call_det (R1) rfl rfl ?_)
                  | (refine callP_det (R1) rfl rfl ?_)
                  | (refine call_det (R2) rfl rfl ?_)
                  | (refine callP_det (R2) rfl rfl ?_)
                  | (refine call_det (hL) rfl rfl ?_)
                  | (refine callP_det (hL) rfl rfl ?_)
                  | (refine call_det (hV) rfl rfl ?_)
                  | (refine callP_det (hV) rfl rfl ?_)
                  | (refine call_det (hLn) rfl rfl ?_)
                  | (refine callP_det (hLn) rfl rfl ?_)
                  | (refine call_det (R3) rfl rfl ?_)
                  | (refine callP_det (R3) rfl rfl ?_)
                  | (refine onJ_q ?_)
                  | (with_reducible refine onI_bare ?_ ?_; focus (simp only [InR]; omega))
                  | (with_reducible refine onC_i ?_ ?_; focus omega)
                  | (refine execG_split (fun h => ?_) (fun h => ?_) <;> simp only [h])
                  | (refine execC_split (fun h => ?_) (fun h => ?_) <;> (try simp only [h]))
                  | (refine onPick_split (fun h => ?_) (fun h => ?_) <;> (try simp only [h])))
      · have hw := hw 0 (by rw [hr]; simp only [w3d]; rw [if_neg h3])
        have e3 : decide ((1 : Int) < (w3.length : Int)) = false := decide_eq_false (by omega)
        cases hG : readI (w2.drop (1 : Int).toNat) with
        | none =>
          rw [hG] at R2
          have hspy := spyR_none hw hG
          rw [hspy]
          refine Fn_of' (fn := f6) (by exact func6) c6 r6 (n := 133) (by rfl) (rv := [.tmp 2, .tmp 3, .tmp 4, .tmp 5]) (by rfl) (by simp) ?_
          unfold m6
          repeat' (first
              | (simp only [d60, dl_len, d3, dl_nth, i0, e0, i1, e1, i2, e2, t0, d4, i3, e3, Option.map_some, Option.isSome, onC_true, ↓wA, ↓wC, wB, frzBE, frzBS, Nat.reduceEqDiff, Nat.reduceAdd, Nat.reduceSub, reduceIte, reduceCtorEq, Nat.reduceBEq, Nat.reduceLT, decide_true])
              | (refine call_det (hS) rfl rfl ?_)
              | (refine callP_det (hS) rfl rfl ?_)
              | (refine call_det (R0) rfl rfl ?_)
              | (refine callP_det (R0) rfl rfl ?_)
              | (refine call_det (R1) rfl rfl ?_)
              | (refine callP_det (R1) rfl rfl ?_)
              | (refine call_det (R2) rfl rfl ?_)
              | (refine callP_det (R2) rfl rfl ?_)
              | (refine call_det (hS) rfl rfl ?_)
              | (refine callP_det (hS) rfl rfl ?_)
              | (refine onJ_q ?_)
              | (with_reducible refine onI_bare ?_ ?_; focus (simp only [InR]; omega))
              | (with_reducible refine onC_i ?_ ?_; focus omega)
              | (refine execG_split (fun h => ?_) (fun h => ?_) <;> simp only [h])
              | (refine execC_split (fun h => ?_) (fun h => ?_) <;> (try simp only [h]))
              | (refine onPick_split (fun h => ?_) (fun h => ?_) <;> (try simp only [h])))
        | some g =>
          have hgN : rdN (w2.drop (1 : Int).toNat) = g := by unfold rdN; rw [hG]; rfl
          rw [hG, hgN] at R2
          rw [hgN] at b2
          simp only [Option.isSome] at R2
          have hspy := spyR_some hw hG
          simp only at hspy
          rw [hspy]
          have hrow : Wd.row ⟨w0, w1, w2, (0 : Int)⟩ g = ⟨rdN (w0.take (w0.length - 1)), rdN (w1.drop (1 : Int).toNat), min 9999 (g - (0 : Int)), (0 : Int), g - (0 : Int) - min 9999 (g - (0 : Int))⟩ := rfl
          have hL := l1Least_fn 9999 (g - (0 : Int))
          have hV := l26One_fn (Wd.row ⟨w0, w1, w2, (0 : Int)⟩ g)
          have hLn := l26Line_fn (Wd.row ⟨w0, w1, w2, (0 : Int)⟩ g)
          rw [hrow] at hV hLn ⊢
          simp only [Row.d] at hV hLn
          generalize rdN (w0.take (w0.length - 1)) = y at *
          generalize rdN (w1.drop (1 : Int).toNat) = m at *
          by_cases hd0 : 0 ≤ (0 : Int)
          case neg =>
            have dd0 : decide ((0 : Int) < 0) = true := decide_eq_true (by omega)
            rw [if_neg (fun h => hd0 h.1)]
            refine Fn_of' (fn := f6) (by exact func6) c6 r6 (n := 133) (by rfl) (rv := [.tmp 2, .tmp 3, .tmp 4, .tmp 5]) (by rfl) (by simp) ?_
            unfold m6
            repeat' (first
                | (simp only [d60, dl_len, d3, dl_nth, i0, e0, i1, e1, i2, e2, t0, d4, dd0, i3, e3, Option.map_some, Option.isSome, onC_true, ↓wA, ↓wC, wB, frzBE, frzBS, Nat.reduceEqDiff, Nat.reduceAdd, Nat.reduceSub, reduceIte, reduceCtorEq, Nat.reduceBEq, Nat.reduceLT, decide_true])
                | (refine call_det (hS) rfl rfl ?_)
                | (refine callP_det (hS) rfl rfl ?_)
                | (refine call_det (R0) rfl rfl ?_)
                | (refine callP_det (R0) rfl rfl ?_)
                | (refine call_det (R1) rfl rfl ?_)
                | (refine callP_det (R1) rfl rfl ?_)
                | (refine call_det (R2) rfl rfl ?_)
                | (refine callP_det (R2) rfl rfl ?_)
                | (refine call_det (hS) rfl rfl ?_)
                | (refine callP_det (hS) rfl rfl ?_)
                | (refine onJ_q ?_)
                | (with_reducible refine onI_bare ?_ ?_; focus (simp only [InR]; omega))
                | (with_reducible refine onC_i ?_ ?_; focus omega)
                | (refine execG_split (fun h => ?_) (fun h => ?_) <;> simp only [h])
                | (refine execC_split (fun h => ?_) (fun h => ?_) <;> (try simp only [h]))
                | (refine onPick_split (fun h => ?_) (fun h => ?_) <;> (try simp only [h])))
          have dd0 : decide ((0 : Int) < 0) = false := decide_eq_false (by omega)
          by_cases hdg : (0 : Int) ≤ g
          case neg =>
            have ddg : decide (g < (0 : Int)) = true := decide_eq_true (by omega)
            rw [if_neg (fun h => hdg h.2.1)]
            refine Fn_of' (fn := f6) (by exact func6) c6 r6 (n := 133) (by rfl) (rv := [.tmp 2, .tmp 3, .tmp 4, .tmp 5]) (by rfl) (by simp) ?_
            unfold m6
            repeat' (first
                | (simp only [d60, dl_len, d3, dl_nth, i0, e0, i1, e1, i2, e2, t0, d4, dd0, ddg, i3, e3, Option.map_some, Option.isSome, onC_true, ↓wA, ↓wC, wB, frzBE, frzBS, Nat.reduceEqDiff, Nat.reduceAdd, Nat.reduceSub, reduceIte, reduceCtorEq, Nat.reduceBEq, Nat.reduceLT, decide_true])
                | (refine call_det (hS) rfl rfl ?_)
                | (refine callP_det (hS) rfl rfl ?_)
                | (refine call_det (R0) rfl rfl ?_)
                | (refine callP_det (R0) rfl rfl ?_)
                | (refine call_det (R1) rfl rfl ?_)
                | (refine callP_det (R1) rfl rfl ?_)
                | (refine call_det (R2) rfl rfl ?_)
                | (refine callP_det (R2) rfl rfl ?_)
                | (refine call_det (hS) rfl rfl ?_)
                | (refine callP_det (hS) rfl rfl ?_)
                | (refine onJ_q ?_)
                | (with_reducible refine onI_bare ?_ ?_; focus (simp only [InR]; omega))
                | (with_reducible refine onC_i ?_ ?_; focus omega)
                | (refine execG_split (fun h => ?_) (fun h => ?_) <;> simp only [h])
                | (refine execC_split (fun h => ?_) (fun h => ?_) <;> (try simp only [h]))
                | (refine onPick_split (fun h => ?_) (fun h => ?_) <;> (try simp only [h])))
          have ddg : decide (g < (0 : Int)) = false := decide_eq_false (by omega)
          generalize hRR : (⟨y, m, min 9999 (g - (0 : Int)), (0 : Int), g - (0 : Int) - min 9999 (g - (0 : Int))⟩ : Row) = R at *
          cases hok : R.ok with
          | false =>
            rw [hok] at hV
            rw [if_neg (fun h => by cases h.2.2.1)]
            refine Fn_of' (fn := f6) (by exact func6) c6 r6 (n := 133) (by rfl) (rv := [.tmp 2, .tmp 3, .tmp 4, .tmp 5]) (by rfl) (by simp) ?_
            unfold m6
            repeat' (first
                | (simp only [d60, dl_len, d3, dl_nth, i0, e0, i1, e1, i2, e2, t0, d4, dd0, ddg, i3, e3, Option.map_some, Option.isSome, onC_true, ↓wA, ↓wC, wB, frzBE, frzBS, Nat.reduceEqDiff, Nat.reduceAdd, Nat.reduceSub, reduceIte, reduceCtorEq, Nat.reduceBEq, Nat.reduceLT, decide_true])
                | (refine call_det (hS) rfl rfl ?_)
                | (refine callP_det (hS) rfl rfl ?_)
                | (refine call_det (R0) rfl rfl ?_)
                | (refine callP_det (R0) rfl rfl ?_)
                | (refine call_det (R1) rfl rfl ?_)
                | (refine callP_det (R1) rfl rfl ?_)
                | (refine call_det (R2) rfl rfl ?_)
                | (refine callP_det (R2) rfl rfl ?_)
                | (refine call_det (hL) rfl rfl ?_)
                | (refine callP_det (hL) rfl rfl ?_)
                | (refine call_det (hV) rfl rfl ?_)
                | (refine callP_det (hV) rfl rfl ?_)
                | (refine call_det (hS) rfl rfl ?_)
                | (refine callP_det (hS) rfl rfl ?_)
                | (refine onJ_q ?_)
                | (with_reducible refine onI_bare ?_ ?_; focus (simp only [InR]; omega))
                | (with_reducible refine onC_i ?_ ?_; focus omega)
                | (refine execG_split (fun h => ?_) (fun h => ?_) <;> simp only [h])
                | (refine execC_split (fun h => ?_) (fun h => ?_) <;> (try simp only [h]))
                | (refine onPick_split (fun h => ?_) (fun h => ?_) <;> (try simp only [h])))
          | true =>
            rw [hok] at hV
            have hLn := hLn hok
            by_cases he : yl R = s
            · have de : decide (yl R = s) = true := decide_eq_true he
              rw [if_pos ⟨hd0, hdg, rfl, he⟩]
              refine Fn_of' (fn := f6) (by exact func6) c6 r6 (n := 133) (by rfl) (rv := [.tmp 2, .tmp 3, .tmp 4, .tmp 5]) (by rfl) (by simp) ?_
              unfold m6
              repeat' (first
                  | (simp only [d60, dl_len, d3, dl_nth, i0, e0, i1, e1, i2, e2, t0, d4, dd0, ddg, de, i3, e3, Option.map_some, Option.isSome, onC_true, ↓wA, ↓wC, wB, frzBE, frzBS, Nat.reduceEqDiff, Nat.reduceAdd, Nat.reduceSub, reduceIte, reduceCtorEq, Nat.reduceBEq, Nat.reduceLT, decide_true])
                  | (refine call_det (hS) rfl rfl ?_)
                  | (refine callP_det (hS) rfl rfl ?_)
                  | (refine call_det (R0) rfl rfl ?_)
                  | (refine callP_det (R0) rfl rfl ?_)
                  | (refine call_det (R1) rfl rfl ?_)
                  | (refine callP_det (R1) rfl rfl ?_)
                  | (refine call_det (R2) rfl rfl ?_)
                  | (refine callP_det (R2) rfl rfl ?_)
                  | (refine call_det (hL) rfl rfl ?_)
                  | (refine callP_det (hL) rfl rfl ?_)
                  | (refine call_det (hV) rfl rfl ?_)
                  | (refine callP_det (hV) rfl rfl ?_)
                  | (refine call_det (hLn) rfl rfl ?_)
                  | (refine callP_det (hLn) rfl rfl ?_)
                  | (refine call_det (hS) rfl rfl ?_)
                  | (refine callP_det (hS) rfl rfl ?_)
                  | (refine onJ_q ?_)
                  | (with_reducible refine onI_bare ?_ ?_; focus (simp only [InR]; omega))
                  | (with_reducible refine onC_i ?_ ?_; focus omega)
                  | (refine execG_split (fun h => ?_) (fun h => ?_) <;> simp only [h])
                  | (refine execC_split (fun h => ?_) (fun h => ?_) <;> (try simp only [h]))
                  | (refine onPick_split (fun h => ?_) (fun h => ?_) <;> (try simp only [h])))
              all_goals (subst hRR; rfl)
            · have de : decide (yl R = s) = false := decide_eq_false he
              rw [if_neg (fun h => he h.2.2.2)]
              refine Fn_of' (fn := f6) (by exact func6) c6 r6 (n := 133) (by rfl) (rv := [.tmp 2, .tmp 3, .tmp 4, .tmp 5]) (by rfl) (by simp) ?_
              unfold m6
              repeat' (first
                  | (simp only [d60, dl_len, d3, dl_nth, i0, e0, i1, e1, i2, e2, t0, d4, dd0, ddg, de, i3, e3, Option.map_some, Option.isSome, onC_true, ↓wA, ↓wC, wB, frzBE, frzBS, Nat.reduceEqDiff, Nat.reduceAdd, Nat.reduceSub, reduceIte, reduceCtorEq, Nat.reduceBEq, Nat.reduceLT, decide_true])
                  | (refine call_det (hS) rfl rfl ?_)
                  | (refine callP_det (hS) rfl rfl ?_)
                  | (refine call_det (R0) rfl rfl ?_)
                  | (refine callP_det (R0) rfl rfl ?_)
                  | (refine call_det (R1) rfl rfl ?_)
                  | (refine callP_det (R1) rfl rfl ?_)
                  | (refine call_det (R2) rfl rfl ?_)
                  | (refine callP_det (R2) rfl rfl ?_)
                  | (refine call_det (hL) rfl rfl ?_)
                  | (refine callP_det (hL) rfl rfl ?_)
                  | (refine call_det (hV) rfl rfl ?_)
                  | (refine callP_det (hV) rfl rfl ?_)
                  | (refine call_det (hLn) rfl rfl ?_)
                  | (refine callP_det (hLn) rfl rfl ?_)
                  | (refine call_det (hS) rfl rfl ?_)
                  | (refine callP_det (hS) rfl rfl ?_)
                  | (refine onJ_q ?_)
                  | (with_reducible refine onI_bare ?_ ?_; focus (simp only [InR]; omega))
                  | (with_reducible refine onC_i ?_ ?_; focus omega)
                  | (refine execG_split (fun h => ?_) (fun h => ?_) <;> simp only [h])
                  | (refine execC_split (fun h => ?_) (fun h => ?_) <;> (try simp only [h]))
                  | (refine onPick_split (fun h => ?_) (fun h => ?_) <;> (try simp only [h])))
theorem lawParse_fn (s : List UInt8) : Fn prog 3 [.str s] (fun rs => rs = [.bool true]) := by
  by_cases hl : s.length ≤ 1048576
  · have hd : decide ((1048576 : Int) < (s.length : Int)) = false := decide_eq_false (by omega)
    have hS := specParse_fn s hl
    have hI := implParse_fn s hl
    rw [spyR_eq] at hS
    have key : ∀ (a b c : Int) (k : Bool), pyR s = [.int .i64 a, .int .i64 b, .int .i64 c, .bool k] → Fn prog 3 [.str s] (fun rs => rs = [.bool true]) := by
      intro a b c k e
      rw [e] at hS hI
      have hk : (k == k) = true := by cases k <;> rfl
      refine Fn_of' (fn := f3) (by exact func3) c3 r3 (n := 46) (by rfl) (rv := [.tmp 2]) (by rfl) (by simp) ?_
      unfold m3
      repeat' (first
          | (simp only [hd, hk, decide_true, ↓wA, ↓wC, wB, frzBE, frzBS, Nat.reduceEqDiff, Nat.reduceAdd, Nat.reduceSub, reduceIte, reduceCtorEq, Nat.reduceBEq, Nat.reduceLT, decide_true])
          | (refine call_det (hS) rfl rfl ?_)
          | (refine callP_det (hS) rfl rfl ?_)
          | (refine call_det (hI) rfl rfl ?_)
          | (refine callP_det (hI) rfl rfl ?_)
          | (refine execG_split (fun h => ?_) (fun h => ?_) <;> simp only [h])
          | (refine execC_split (fun h => ?_) (fun h => ?_) <;> (try simp only [h]))
          | (refine onPick_split (fun h => ?_) (fun h => ?_) <;> (try simp only [h])))
    by_cases h : pyOK s = true
    · exact key _ _ _ _ (by unfold pyR; rw [if_pos h])
    · exact key _ _ _ _ (by unfold pyR; rw [if_neg h])
  · have hd : decide ((1048576 : Int) < (s.length : Int)) = true := decide_eq_true (by omega)
    refine Fn_of' (fn := f3) (by exact func3) c3 r3 (n := 46) (by rfl) (rv := [.tmp 2]) (by rfl) (by simp) ?_
    unfold m3
    repeat' (first
        | (simp only [hd, ↓wA, ↓wC, wB, frzBE, frzBS, Nat.reduceEqDiff, Nat.reduceAdd, Nat.reduceSub, reduceIte, reduceCtorEq, Nat.reduceBEq, Nat.reduceLT, decide_true])
        | (refine execG_split (fun h => ?_) (fun h => ?_) <;> simp only [h])
        | (refine execC_split (fun h => ?_) (fun h => ?_) <;> (try simp only [h]))
        | (refine onPick_split (fun h => ?_) (fun h => ?_) <;> (try simp only [h])))
theorem lawParse (x0 : D) (h0 : Typed .str x0) : Fn prog 3 [x0] (fun rs => rs = [.bool true]) := by
  obtain ⟨s, rfl, _⟩ := h0
  exact lawParse_fn s
end Go.Pe.Tryd
