/- The report of the years, walked. -/
import Derived.Test.YtepedloehigedaaDoorYr8
import Derived.Test.YtepedloehigedaaDoorYe1
set_option maxRecDepth 100000
set_option maxHeartbeats 4000000
set_option linter.all false
namespace Go.Pe.Tryd
open Go.Proofs.Tryd
def rl (p : Row × Int) : List UInt8 := 10 :: (yl p.1 ++ 32 :: 61 :: 32 :: Lib.itoa p.2)
def rtx (stock : Int) (xs : List Row) (i : Nat) : List UInt8 := [115, 116, 111, 99, 107, 32] ++ Lib.itoa stock ++ ((xs.zip (rests stock xs)).take i).flatMap rl
theorem rtx_step {stock : Int} {xs : List Row} {i : Nat} {r : Row} {v : Int} (hr : xs[i]? = some r) (hv : (rests stock xs)[i]? = some v) : rtx stock xs (i + 1) = rtx stock xs i ++ rl (r, v) := by
  have hz : (xs.zip (rests stock xs))[i]? = some (r, v) := by rw [List.getElem?_zip_eq_some]; exact ⟨hr, hv⟩
  have hi := lt_of_get hz
  unfold rtx
  rw [List.take_succ_eq_append_getElem hi, List.flatMap_append, ← List.append_assoc]
  have : (xs.zip (rests stock xs))[i] = (r, v) := by rw [List.getElem?_eq_getElem hi] at hz; injection hz
  rw [this]
  simp
theorem rd_iD {o : List Ob} {K : SV → Prop} {n : Int} : stepRd o none (iD n) K = K (.d (.int .i64 n)) := by simp [iD, stepRd, D.noOwn]
theorem yl_le {r : Row} (h : r.ok = true) : (yl r).length ≤ 130 := by
  have hb := ok_bounds h
  have hg : r.gone = r.k + r.x + r.g := rfl
  have l1 := small_len (n := r.y) (by omega) (by omega)
  have l2 := small_len (n := r.m) (by omega) (by omega)
  have l3 := small_len (n := r.gone) (by omega) (by omega)
  have l4 := small_len (n := r.x) (by omega) (by omega)
  unfold yl
  split <;> simp only [ylB, ylX, List.length_append, List.length_cons, List.length_nil] <;> omega
theorem specReport_fn (stock : Int) (xs : List Row) (hs : InR .i64 stock) (hlen : xs.length ≤ 1048576) (hg : good stock xs = true) : Fn prog 11 [.int .i64 stock, .sl false 5 (rowsD xs)] (fun rs => rs = [.str (rtx stock xs xs.length), .bool true]) := by
  obtain ⟨g0, g1, g2, g3⟩ := good_parts hg
  have hgo := l26Good_fn stock xs hs hlen
  rw [hg] at hgo
  have hls := small_len (n := stock) g0 (by omega)
  have hx0 : rtx stock xs 0 = 115 :: 116 :: 111 :: 99 :: 107 :: 32 :: Lib.itoa stock := by simp [rtx]
  refine Fn_of' (fn := f11) (by exact func11) c11 r11 (n := 41) (by rfl) (rv := [.tmp 4, .tmp 5]) (by rfl) (by simp) ?_
  unfold m11
  try simp only [↓wA, ↓wC, wB, Nat.reduceEqDiff, Nat.reduceAdd, Nat.reduceSub, reduceIte, reduceCtorEq, Nat.reduceBEq, Nat.reduceLT, decide_true]
  refine call_det hgo rfl rfl ?_
  try simp only [↓wA, ↓wC, wB, Nat.reduceEqDiff, Nat.reduceAdd, Nat.reduceSub, reduceIte, reduceCtorEq, Nat.reduceBEq, Nat.reduceLT, decide_true]
  refine call_det (l1Num_fn stock g0 hs) rfl rfl ?_
  try simp only [↓wA, ↓wC, wB, Nat.reduceEqDiff, Nat.reduceAdd, Nat.reduceSub, reduceIte, reduceCtorEq, Nat.reduceBEq, Nat.reduceLT, decide_true]
  refine onC_i (by (try simp only [List.length_append, List.length_cons, List.length_nil]); omega) ?_
  try simp only [↓wA, ↓wC, wB, Nat.reduceEqDiff, Nat.reduceAdd, Nat.reduceSub, reduceIte, reduceCtorEq, Nat.reduceBEq, Nat.reduceLT, decide_true]
  refine call_det (l26Rests_fn stock xs hg) rfl (by simp [D.allOwn, ints_allOwn]) ?_
  try simp only [↓wA, ↓wC, wB, Nat.reduceEqDiff, Nat.reduceAdd, Nat.reduceSub, reduceIte, reduceCtorEq, Nat.reduceBEq, Nat.reduceLT, decide_true]
  refine exec_loop (fun i : Nat => ⟨[(1, .d (.sl false 5 (rowsD xs))), (6, .d (.str (rtx stock xs i))), (7, .own 0), (8, .d (.int .i64 i))], [.val (.sl true 1 (dl iD (rests stock xs)))]⟩)
    (fun i => i ≤ xs.length ∧ (rtx stock xs i).length ≤ 100 + 200 * i) (fun i => xs.length - i) 0
    (weak_of [] rfl ⟨⟨rfl, rfl⟩, ⟨by rw [hx0]; rfl, rfl⟩, ⟨rfl, rfl⟩, ⟨rfl, rfl⟩, trivial⟩) ⟨Nat.zero_le _, by simp only [rtx, List.take_zero, List.flatMap_nil, List.length_append, List.length_cons, List.length_nil]; omega⟩ ?_
  rintro i ⟨hi, hl⟩
  by_cases hlt : i < xs.length
  · obtain ⟨r, hr⟩ := get_lt hlt
    obtain ⟨v, hv⟩ := get_lt (show i < (rests stock xs).length by rw [rests_len]; omega)
    have hok := good_ok hg hr
    have hvb := good_rest hg hv
    have hyl := yl_le hok
    have hvl := small_len (n := v) hvb.1 (by omega)
    have hd : decide ((i : Int) < (xs.length : Int)) = true := decide_eq_true (by omega)
    have h0 : (0 : Int) ≤ (i : Int) := by omega
    have hst := rtx_step hr hv
    have d1 := l26Line_fn r hok
    have d2 := l1Num_fn v hvb.1 (small_InR hvb.1 (by omega))
    repeat' (first
        | (simp only [hd, h0, dl_len, dl_nth, Int.toNat_natCast, hr, hv, Option.map_some, ↓rd_row, ↓rd_iD, onC_true, rests_len, ↓wA, ↓wC, wB, Nat.reduceEqDiff, Nat.reduceAdd, Nat.reduceSub, reduceIte, reduceCtorEq, Nat.reduceBEq, Nat.reduceLT, decide_true])
        | (refine callP_det d1 rfl rfl ?_)
        | (refine callP_det d2 rfl rfl ?_)
        | (refine onC_i (by (try simp only [List.length_append, List.length_cons, List.length_nil]); omega) ?_)
        | (refine onI_bare (by simp only [InR]; omega) ?_)
        | (refine execG_split (fun h => ?_) (fun h => ?_) <;> simp only [h])
        | (refine execC_split (fun h => ?_) (fun h => ?_) <;> (try simp only [h]))
        | (refine onPick_split (fun h => ?_) (fun h => ?_) <;> (try simp only [h])))
    all_goals refine ⟨i + 1, weak_of [] rfl ⟨⟨rfl, rfl⟩, ⟨?_, rfl⟩, ⟨rfl, rfl⟩, ⟨rfl, rfl⟩, trivial⟩, ⟨by omega, ?_⟩, by omega⟩
    · rw [hst]; rfl
    · rw [hst]; simp only [rl, List.length_append, List.length_cons]; omega
  · have hd : decide ((i : Int) < (xs.length : Int)) = false := decide_eq_false (by omega)
    have e : i = xs.length := by omega
    try simp only [dl_len, hd, ↓wA, ↓wC, wB, Nat.reduceEqDiff, Nat.reduceAdd, Nat.reduceSub, reduceIte, reduceCtorEq, Nat.reduceBEq, Nat.reduceLT, decide_true]
    rw [e]
theorem implReport_fn (stock : Int) (xs : List Row) (hs : InR .i64 stock) (hlen : xs.length ≤ 1048576) (hg : good stock xs = true) : Fn prog 13 [.int .i64 stock, .sl false 5 (rowsD xs)] (fun rs => rs = [.str (rtx stock xs xs.length), .bool true]) := by
  obtain ⟨g0, g1, g2, g3⟩ := good_parts hg
  have hgo := restsAfter_fn stock xs hlen
  simp only [restsR, hg, if_true] at hgo
  have hls := small_len (n := stock) g0 (by omega)
  have hx0 : rtx stock xs 0 = 115 :: 116 :: 111 :: 99 :: 107 :: 32 :: Lib.itoa stock := by simp [rtx]
  refine Fn_of' (fn := f13) (by exact func13) c13 r13 (n := 43) (by rfl) (rv := [.tmp 4, .tmp 5]) (by rfl) (by simp) ?_
  unfold m13
  try simp only [↓wA, ↓wC, wB, Nat.reduceEqDiff, Nat.reduceAdd, Nat.reduceSub, reduceIte, reduceCtorEq, Nat.reduceBEq, Nat.reduceLT, decide_true]
  refine call_det hgo rfl (by simp [D.allOwn, ints_allOwn]) ?_
  try simp only [↓wA, ↓wC, wB, Nat.reduceEqDiff, Nat.reduceAdd, Nat.reduceSub, reduceIte, reduceCtorEq, Nat.reduceBEq, Nat.reduceLT, decide_true]
  refine call_det (decimal_fn stock hs) rfl rfl ?_
  try simp only [↓wA, ↓wC, wB, Nat.reduceEqDiff, Nat.reduceAdd, Nat.reduceSub, reduceIte, reduceCtorEq, Nat.reduceBEq, Nat.reduceLT, decide_true]
  refine onC_i (by (try simp only [List.length_append, List.length_cons, List.length_nil]); omega) ?_
  try simp only [dl_len, ↓wA, ↓wC, wB, Nat.reduceEqDiff, Nat.reduceAdd, Nat.reduceSub, reduceIte, reduceCtorEq, Nat.reduceBEq, Nat.reduceLT, decide_true]
  refine exec_loop (fun i : Nat => ⟨[(6, .own 0), (8, .d (.str (rtx stock xs i))), (22, .d (.sl false 5 (rowsD xs))), (23, .d (.int .i64 xs.length)), (24, .d (.int .i64 i))], [.val (.sl true 1 (dl iD (rests stock xs)))]⟩)
    (fun i => i ≤ xs.length ∧ (rtx stock xs i).length ≤ 100 + 200 * i) (fun i => xs.length - i) 0
    (weak_of [] rfl ⟨⟨rfl, rfl⟩, ⟨by rw [hx0]; rfl, rfl⟩, ⟨rfl, rfl⟩, ⟨rfl, rfl⟩, ⟨rfl, rfl⟩, trivial⟩) ⟨Nat.zero_le _, by simp only [rtx, List.take_zero, List.flatMap_nil, List.length_append, List.length_cons, List.length_nil]; omega⟩ ?_
  rintro i ⟨hi, hl⟩
  by_cases hlt : i < xs.length
  · obtain ⟨r, hr⟩ := get_lt hlt
    obtain ⟨v, hv⟩ := get_lt (show i < (rests stock xs).length by rw [rests_len]; omega)
    have hok := good_ok hg hr
    have hvb := good_rest hg hv
    have hyl := yl_le hok
    have hvl := small_len (n := v) hvb.1 (by omega)
    have hd : decide ((i : Int) < (xs.length : Int)) = true := decide_eq_true (by omega)
    have h0 : (0 : Int) ≤ (i : Int) := by omega
    have hst := rtx_step hr hv
    have d1 := yearLine_fn r hok
    have d2 := decimal_fn v (small_InR hvb.1 (by omega))
    repeat' (first
        | (simp only [hd, h0, dl_len, dl_nth, Int.toNat_natCast, hr, hv, Option.map_some, ↓rd_row, ↓rd_iD, onC_true, rests_len, isV_row, size_row, ↓wA, ↓wC, wB, Nat.reduceEqDiff, Nat.reduceAdd, Nat.reduceSub, reduceIte, reduceCtorEq, Nat.reduceBEq, Nat.reduceLT, decide_true])
        | (refine callP_det d1 rfl rfl ?_)
        | (refine callP_det d2 rfl rfl ?_)
        | (refine onC_i (by (try simp only [List.length_append, List.length_cons, List.length_nil]); omega) ?_)
        | (refine onI_bare (by simp only [InR]; omega) ?_)
        | (refine execG_split (fun h => ?_) (fun h => ?_) <;> simp only [h])
        | (refine execC_split (fun h => ?_) (fun h => ?_) <;> (try simp only [h]))
        | (refine onPick_split (fun h => ?_) (fun h => ?_) <;> (try simp only [h])))
    all_goals refine ⟨i + 1, weak_of _ rfl ⟨⟨rfl, rfl⟩, ⟨?_, rfl⟩, ⟨rfl, rfl⟩, ⟨rfl, rfl⟩, ⟨rfl, rfl⟩, trivial⟩, ⟨by omega, ?_⟩, by omega⟩
    · rw [hst]; rfl
    · rw [hst]; simp only [rl, List.length_append, List.length_cons]; omega
  · have hd : decide ((i : Int) < (xs.length : Int)) = false := decide_eq_false (by omega)
    have e : i = xs.length := by omega
    try simp only [dl_len, hd, ↓wA, ↓wC, wB, Nat.reduceEqDiff, Nat.reduceAdd, Nat.reduceSub, reduceIte, reduceCtorEq, Nat.reduceBEq, Nat.reduceLT, decide_true]
    rw [e]
theorem specReport_bad (stock : Int) (xs : List Row) (hs : InR .i64 stock) (hlen : xs.length ≤ 1048576) (hg : good stock xs = false) : Fn prog 11 [.int .i64 stock, .sl false 5 (rowsD xs)] (fun rs => rs = [.str [], .bool false]) := by
  have hgo := l26Good_fn stock xs hs hlen
  rw [hg] at hgo
  refine Fn_of' (fn := f11) (by exact func11) c11 r11 (n := 41) (by rfl) (rv := [.tmp 4, .tmp 5]) (by rfl) (by simp) ?_
  unfold m11
  try simp only [↓wA, ↓wC, wB, Nat.reduceEqDiff, Nat.reduceAdd, Nat.reduceSub, reduceIte, reduceCtorEq, Nat.reduceBEq, Nat.reduceLT, decide_true]
  refine call_det hgo rfl rfl ?_
  try simp only [↓wA, ↓wC, wB, Nat.reduceEqDiff, Nat.reduceAdd, Nat.reduceSub, reduceIte, reduceCtorEq, Nat.reduceBEq, Nat.reduceLT, decide_true]
theorem implReport_bad (stock : Int) (xs : List Row) (hlen : xs.length ≤ 1048576) (hg : good stock xs = false) : Fn prog 13 [.int .i64 stock, .sl false 5 (rowsD xs)] (fun rs => rs = [.str [], .bool false]) := by
  have hgo := restsAfter_fn stock xs hlen
  simp only [restsR, hg, Bool.false_eq_true, if_false] at hgo
  refine Fn_of' (fn := f13) (by exact func13) c13 r13 (n := 43) (by rfl) (rv := [.tmp 4, .tmp 5]) (by rfl) (by simp) ?_
  unfold m13
  try simp only [↓wA, ↓wC, wB, Nat.reduceEqDiff, Nat.reduceAdd, Nat.reduceSub, reduceIte, reduceCtorEq, Nat.reduceBEq, Nat.reduceLT, decide_true]
  refine call_det hgo rfl (by simp [D.allOwn, ints_allOwn]) ?_
  try simp only [↓wA, ↓wC, wB, Nat.reduceEqDiff, Nat.reduceAdd, Nat.reduceSub, reduceIte, reduceCtorEq, Nat.reduceBEq, Nat.reduceLT, decide_true]
theorem lawYr_of (stock : Int) (xs : List Row) (a : List UInt8) (b : Bool) (hlen : xs.length ≤ 1048576) (hS : Fn prog 11 [.int .i64 stock, .sl false 5 (rowsD xs)] (fun rs => rs = [.str a, .bool b])) (hI : Fn prog 13 [.int .i64 stock, .sl false 5 (rowsD xs)] (fun rs => rs = [.str a, .bool b])) :
    Fn prog 4 [.int .i64 stock, .sl false 5 (rowsD xs)] (fun rs => rs = [.bool true]) := by
  have hm : xs.length ≤ maxLen := Nat.le_trans hlen (by decide)
  have e1 : (if (1048576 : Int) - xs.length < 0 then (-1 : Int) else 1048576 - xs.length) = 1048576 - xs.length := if_neg (by omega)
  have e2 : decide ((1048576 : Int) - xs.length < 0) = false := decide_eq_false (by omega)
  refine Fn_of' (fn := f4) (by exact func4) c4 r4 (n := 44) (by rfl) (rv := [.tmp 4]) (by rfl) (by simp) ?_
  unfold m4
  try simp only [↓wA, ↓wC, wB, Nat.reduceEqDiff, Nat.reduceAdd, Nat.reduceSub, reduceIte, reduceCtorEq, Nat.reduceBEq, Nat.reduceLT, decide_true]
  refine call_det (szYearRowS_fn xs 1048576 (by omega) (by omega) hm) rfl rfl ?_
  repeat' (first
      | (simp only [e1, e2, rows_noOwn, ↓wA, ↓wC, wB, Nat.reduceEqDiff, Nat.reduceAdd, Nat.reduceSub, reduceIte, reduceCtorEq, Nat.reduceBEq, Nat.reduceLT, decide_true])
      | (refine call_det (toYearRowS_fn xs hlen) rfl rfl ?_)
      | (refine call_det hS (by simp [argsD, argD, valOf, D.unown, rows_unown]) rfl ?_)
      | (refine call_det hI (by simp [argsD, argD, valOf, D.unown, rows_unown]) rfl ?_)
      | (refine call_det (eqYearRowS_refl xs hlen) (by simp [argsD, argD, valOf, D.unown, rows_unown]) rfl ?_)
      | (refine execG_split (fun h => ?_) (fun h => ?_) <;> simp only [h])
      | (refine execC_split (fun h => ?_) (fun h => ?_) <;> (try simp only [h]))
      | (refine onPick_split (fun h => ?_) (fun h => ?_) <;> (try simp only [h])))
  all_goals simp_all
theorem lawYr_fn (stock : Int) (xs : List Row) (hs : InR .i64 stock) (hm : xs.length ≤ maxLen) : Fn prog 4 [.int .i64 stock, .sl false 5 (rowsD xs)] (fun rs => rs = [.bool true]) := by
  by_cases hlen : xs.length ≤ 1048576
  · cases hg : good stock xs with
    | true => exact lawYr_of stock xs _ _ hlen (specReport_fn stock xs hs hlen hg) (implReport_fn stock xs hs hlen hg)
    | false => exact lawYr_of stock xs _ _ hlen (specReport_bad stock xs hs hlen hg) (implReport_bad stock xs hlen hg)
  · have e1 : (if (1048576 : Int) - xs.length < 0 then (-1 : Int) else 1048576 - xs.length) = -1 := if_pos (by omega)
    have e2 : decide ((-1 : Int) < 0) = true := by decide
    refine Fn_of' (fn := f4) (by exact func4) c4 r4 (n := 44) (by rfl) (rv := [.tmp 4]) (by rfl) (by simp) ?_
    unfold m4
    try simp only [↓wA, ↓wC, wB, Nat.reduceEqDiff, Nat.reduceAdd, Nat.reduceSub, reduceIte, reduceCtorEq, Nat.reduceBEq, Nat.reduceLT, decide_true]
    refine call_det (szYearRowS_fn xs 1048576 (by omega) (by omega) hm) rfl rfl ?_
    try simp only [e1, e2, ↓wA, ↓wC, wB, Nat.reduceEqDiff, Nat.reduceAdd, Nat.reduceSub, reduceIte, reduceCtorEq, Nat.reduceBEq, Nat.reduceLT, decide_true]
theorem lawYr (x0 x1 : D) (h0 : Typed (.int .i64) x0) (h1 : Typed (.sl 5 rowSh) x1) : Fn prog 4 [x0, x1] (fun rs => rs = [.bool true]) :=
  stockRows (P := fun a b => Fn prog 4 [a, b] (fun rs => rs = [.bool true])) lawYr_fn x0 x1 h0 h1
end Go.Pe.Tryd
