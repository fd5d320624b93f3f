/- The law of years, walked. -/
import Derived.Test.YthdicoonoboakaaDoorW2
import Derived.Test.YthdicoonoboakaaDoorPeD
import Derived.Test.YthdicoonoboakaaDoorMc1
import Derived.Test.YthdicoonoboakaaDoorMc2
set_option maxRecDepth 100000
set_option maxHeartbeats 4000000
set_option linter.all false
namespace Go.Pe.Tryd
open Nat (reduceEqDiff reduceAdd reduceSub reduceLT)
open Go.Proofs.Tryd
structure Held (p : Prop) : Prop where
  out : p
theorem cutT {G : Prop} (T : Prop) (m : Held T → G) (r : T) : G := m ⟨r⟩
def rsx (st : Int) (xs : List Row) : List Int := if good st xs = true then rests st xs else []
theorem restsR_form (st : Int) (xs : List Row) : restsR st xs = [.sl true 1 (dl iD (rsx st xs)), .bool (good st xs)] := by
  unfold restsR rsx
  cases good st xs <;> rfl
theorem rsx_len (st : Int) (xs : List Row) : (rsx st xs).length ≤ xs.length := by
  unfold rsx
  split
  · rw [rests_len]; exact Nat.le_refl _
  · simp
theorem rsx_good {st : Int} {xs : List Row} {i : Nat} (h : i < (rsx st xs).length) : good st xs = true ∧ rsx st xs = rests st xs := by
  unfold rsx at h ⊢
  split
  · rename_i hg; exact ⟨hg, rfl⟩
  · rename_i hg; rw [if_neg hg] at h; simp at h
def ylS (r : Row) : List UInt8 := if r.ok = true then yl r else []
theorem ylR_S (r : Row) : ylR r = [.str (ylS r), .bool r.ok] := by
  unfold ylR ylS
  cases r.ok <;> rfl
theorem pyR_S (s : List UInt8) : ∃ a b c d, pyR s = [.int .i64 a, .int .i64 b, .int .i64 c, .bool d] := by
  unfold pyR
  split
  · exact ⟨_, _, _, _, rfl⟩
  · exact ⟨_, _, _, _, rfl⟩
theorem implRep_fn (st : Int) (xs : List Row) (hs : InR .i64 st) (hlen : xs.length ≤ 1048576) : Fn prog 17 [.int .i64 st, .sl false 5 (rowsD xs)] (fun rs => rs = [.str (repR st xs), .bool (good st xs)]) := by
  cases hg : good st xs with
  | true => rw [repR, if_pos hg]; exact implReport_fn st xs hs hlen hg
  | false => rw [repR, hg, if_neg (by decide)]; exact implReport_bad st xs hlen hg
theorem specRep_fn (st : Int) (xs : List Row) (hs : InR .i64 st) (hlen : xs.length ≤ 1048576) : Fn prog 18 [.int .i64 st, .sl false 5 (rowsD xs)] (fun rs => rs = [.str (repR st xs), .bool (good st xs)]) := by
  cases hg : good st xs with
  | true => rw [repR, if_pos hg]; exact specReport_fn st xs hs hlen hg
  | false => rw [repR, hg, if_neg (by decide)]; exact specReport_bad st xs hs hlen hg
theorem rtx_le {st : Int} {xs : List Row} (hg : good st xs = true) : (rtx st xs xs.length).length ≤ 100 + 200 * xs.length := by
  have hp := good_parts hg
  have hls := small_len (n := st) hp.1 (by omega)
  have hz : ∀ i, i ≤ xs.length → (rtx st xs i).length ≤ 100 + 200 * i := by
    intro i
    induction i with
    | zero =>
      intro _
      simp only [rtx, List.take_zero, List.flatMap_nil, List.length_append, List.length_cons, List.length_nil]
      omega
    | succ i ih =>
      intro hi
      obtain ⟨r, hr⟩ := get_lt (show i < xs.length by omega)
      obtain ⟨v, hv⟩ := get_lt (show i < (rests st xs).length by rw [rests_len]; omega)
      have hvb := good_rest hg hv
      have hyl := yl_le (good_ok hg hr)
      have hvl := small_len (n := v) hvb.1 (by omega)
      have := ih (by omega)
      rw [rtx_step hr hv, List.length_append]
      simp only [rl, List.length_append, List.length_cons]
      omega
  exact hz _ (Nat.le_refl _)
theorem repR_le {st : Int} {xs : List Row} (hl : xs.length ≤ 12) : (repR st xs).length ≤ 5000 := by
  unfold repR
  split
  · rename_i hg
    have := rtx_le hg
    omega
  · simp
theorem fnYears_fn (code : List UInt8) : Fn prog 3 [.sl false 1 (bytesD code)] (fun rs => rs = [.bool true]) := by
  have hB := rBig_fn code
  cases hb : decide ((65536 : Int) < (code.length : Int)) with
  | true =>
    rw [hb] at hB
    refine Fn_of' (fn := f3) (by exact func3) c3 r3 (n := 250) (by rfl) (rv := [.tmp 2]) (by rfl) (by simp) ?_
    unfold m3
    try simp only [wQ]
    repeat' (first | (simp only [↓wA, ↓wC, wB, frzBE, frzBS, reduceEqDiff, reduceAdd, reduceSub, reduceIte, reduceCtorEq, Nat.reduceBEq, reduceLT]) | (refine call_det (hB) rfl rfl ?_) | (refine callP_det (hB) rfl rfl ?_) | ((first | apply execG_split | apply execC_split | apply onPick_split) <;> intro h <;> try simp only [h]))
  | false =>
    rw [hb] at hB
    have hc : code.length ≤ 1048576 := by have := of_decide_eq_false hb; omega
    have hbb : ∀ b : Bool, (!(b == b)) = false := fun b => by cases b <;> rfl
    refine Fn_ofg (ps := [[1, 1, 1, 1, 1, 1, 1, 1, 1, 1, 1, 0], [1, 1, 1, 1, 1, 1, 1, 0]]) (fn := f3) (by exact func3) c3 r3 (n := 250) (by rfl) (rv := [.tmp 2]) (by rfl) (by simp) ?_
    unfold m3
    try simp only [wQ]
    simp only [ghAll, ghAt]
    repeat' (first | (simp only [↓wA, ↓wC, wB, frzBE, frzBS, reduceEqDiff, reduceAdd, reduceSub, reduceIte, reduceCtorEq, Nat.reduceBEq, reduceLT]) | (refine call_det (hB) rfl rfl ?_) | (refine callP_det (hB) rfl rfl ?_) | ((first | apply execG_split | apply execC_split | apply onPick_split) <;> intro h <;> try simp only [h]))
    refine call_rel (yDrawRestsAfter_fn code hc) rfl fun rs h => ?_
    obtain ⟨st, xs, rfl, hxl, hs1, hs2⟩ := h
    have hno := rows_noOwn xs
    refine ⟨.inl rfl, ?_⟩
    have hsr : InR .i64 st := ⟨by omega, by omega⟩
    have hI := implRestsAfter_fn st xs (by omega)
    have hS := specRestsAfter_fn st xs hsr (by omega)
    rw [restsR_form] at hI hS
    have hrl := rsx_len st xs
    have hJ : Fn prog 8 [.sl false 1 (dl iD (rsx st xs)).unown, .sl false 1 (dl iD (rsx st xs)).unown] (fun rs => rs = [.bool true]) := by rw [ints_unown]; exact rInts_refl _ (by omega)
    have hG := areYearRows_fn st xs (by omega)
    repeat' (first | (simp only [hno, hbb, onC_true, ↓wA, ↓wC, wB, frzBE, frzBS, reduceEqDiff, reduceAdd, reduceSub, reduceIte, reduceCtorEq, Nat.reduceBEq, reduceLT]) | (refine call_det (hI) rfl rfl ?_) | (refine callP_det (hI) rfl rfl ?_) | (refine call_det (hS) rfl rfl ?_) | (refine callP_det (hS) rfl rfl ?_) | (refine call_det (hJ) rfl rfl ?_) | (refine callP_det (hJ) rfl rfl ?_) | (refine call_det (hG) rfl rfl ?_) | (refine callP_det (hG) rfl rfl ?_) | ((first | apply execG_split | apply execC_split | apply onPick_split) <;> intro h <;> try simp only [h]))
    refine exec_range (rsx st xs).length (fun i : Nat => ⟨[(0, .d (.sl false 1 (bytesD code))), (3, .d (.int .i64 st)), (4, .d (.sl false 5 (rowsD xs))), (5, .own 0), (6, .d (.bool (good st xs))), (9, .d (.int .i64 ((st :: rsx st xs).getD i 0))), (10, .d (.int .i64 i))], [.val (.sl true 1 (dl iD (rsx st xs)))]⟩) (fun _ => True) (weak_of _ rfl ⟨⟨rfl, rfl⟩, ⟨rfl, rfl⟩, ⟨rfl, rfl⟩, ⟨rfl, rfl⟩, ⟨rfl, rfl⟩, ⟨rfl, rfl⟩, ⟨rfl, rfl⟩, trivial⟩) trivial ?_ ?_
    · intro i hlt _ hd h0
      obtain ⟨hg, hrx⟩ := rsx_good hlt
      obtain ⟨w, hw⟩ := get_lt hlt
      obtain ⟨r, hr⟩ := get_lt (show i < xs.length by omega)
      have hw' := hw
      rw [hrx] at hw'
      have hl := rests_last xs st i r w hr hw'
      have hn : (st :: rsx st xs).getD (i + 1) 0 = w := by rw [hrx]; exact rests_next hw'
      rw [← hrx] at hl
      generalize (st :: rsx st xs).getD i 0 = u at hl ⊢
      have hwb := good_rest hg hw'
      have hrb := ok_bounds (good_ok hg hr)
      have hgn : r.gone = r.k + r.x + r.g := rfl
      have d1 : decide (w < 0) = false := decide_eq_false (by omega)
      have d2 : decide (w = u + r.m - r.k - r.x - r.g) = true := decide_eq_true (by omega)
      repeat' (first | (simp only [dl_len, dl_nth, hd, h0, hr, hw, d1, d2, Int.toNat_natCast, Option.map_some, rd_iD, ↓rd_row, Row.noOwn, size_row, isV_row, onC_true, ↓wA, ↓wC, wB, frzBE, frzBS, reduceEqDiff, reduceAdd, reduceSub, reduceIte, reduceCtorEq, Nat.reduceBEq, reduceLT]) | (with_reducible refine onI_bare ?_ ?_; focus (simp only [InR]; omega)) | ((first | apply execG_split | apply execC_split | apply onPick_split) <;> intro h <;> try simp only [h]))
      repeat' (first | (simp only [Row.d, dl_len, dl_nth, hd, h0, hr, hw, d1, d2, Int.toNat_natCast, Option.map_some, rd_iD, onC_true, ↓wA, ↓wC, wB, frzBE, frzBS, reduceEqDiff, reduceAdd, reduceSub, reduceIte, reduceCtorEq, Nat.reduceBEq, reduceLT]) | (with_reducible refine onI_bare ?_ ?_; focus (simp only [InR]; omega)) | ((first | apply execG_split | apply execC_split | apply onPick_split) <;> intro h <;> try simp only [h]))
      exact ⟨i + 1, by rw [hn]; exact (weak_of _ rfl ⟨⟨rfl, rfl⟩, ⟨rfl, rfl⟩, ⟨rfl, rfl⟩, ⟨rfl, rfl⟩, ⟨rfl, rfl⟩, ⟨rfl, rfl⟩, ⟨rfl, rfl⟩, trivial⟩), by omega, by omega⟩
    · intro _ hd
      repeat' (first | (simp only [dl_len, hd, onC_true, ↓wA, ↓wC, wB, frzBE, frzBS, reduceEqDiff, reduceAdd, reduceSub, reduceIte, reduceCtorEq, Nat.reduceBEq, reduceLT]) | ((first | apply execG_split | apply execC_split | apply onPick_split) <;> intro h <;> try simp only [h]))
      refine exec_gh1 (weak_of (s' := ⟨[(0, .d (.sl false 1 (bytesD code))), (3, .d (.int .i64 st)), (4, .d (.sl false 5 (rowsD xs))), (6, .d (.bool (good st xs)))], []⟩) _ rfl ⟨⟨rfl, rfl⟩, ⟨rfl, rfl⟩, ⟨rfl, rfl⟩, ⟨rfl, rfl⟩, trivial⟩) ?_
      repeat' (first | (simp only [onC_true, ↓wA, ↓wC, wB, frzBE, frzBS, reduceEqDiff, reduceAdd, reduceSub, reduceIte, reduceCtorEq, Nat.reduceBEq, reduceLT]) | ((first | apply execG_split | apply execC_split | apply onPick_split) <;> intro h <;> try simp only [h]))
      refine call_rel (drawLine_fn code hc) rfl fun rs h => ?_
      obtain ⟨r, rfl⟩ := h
      refine ⟨.inl rfl, ?_⟩
      have hL1 := implYearLine_fn r
      have hL2 := specYearLine_fn r
      rw [ylR_S] at hL1 hL2
      have hL3 := isYearRow_fn r
      have hyl : (ylS r).length ≤ 130 := by
        unfold ylS
        split
        · rename_i h; exact yl_le h
        · simp
      apply cutT
      case m =>
        intro rest
        cases hk : r.ok with
        | true =>
          have hP := implParse_fn (yl r) (by rw [ylS, if_pos hk] at hyl; omega)
          rw [parse_line hk] at hP
          have hrb := ok_bounds hk
          have hgn : r.gone = r.k + r.x + r.g := rfl
          rw [ylS, if_pos hk, hk] at hL1 hL2
          rw [hk] at hL3
          have d1 : decide (r.gone = r.k + r.x + r.g) = true := decide_eq_true hgn
          repeat' (first | (simp only [↓rd_row, Row.noOwn, size_row, isV_row, onC_true, ↓wA, ↓wC, wB, frzBE, frzBS, reduceEqDiff, reduceAdd, reduceSub, reduceIte, reduceCtorEq, Nat.reduceBEq, reduceLT]) | (refine call_det (hL1) rfl rfl ?_) | (refine callP_det (hL1) rfl rfl ?_) | (refine call_det (hL2) rfl rfl ?_) | (refine callP_det (hL2) rfl rfl ?_) | (refine call_det (hL3) rfl rfl ?_) | (refine callP_det (hL3) rfl rfl ?_) | (refine call_det (hP) rfl rfl ?_) | (refine callP_det (hP) rfl rfl ?_) | ((first | apply execG_split | apply execC_split | apply onPick_split) <;> intro h <;> try simp only [h]))
          repeat' (first | (simp only [Row.d, d1, onC_true, ↓wA, ↓wC, wB, frzBE, frzBS, reduceEqDiff, reduceAdd, reduceSub, reduceIte, reduceCtorEq, Nat.reduceBEq, reduceLT]) | (refine call_det (hP) rfl rfl ?_) | (refine callP_det (hP) rfl rfl ?_) | (with_reducible refine onI_bare ?_ ?_; focus (simp only [InR]; omega)) | ((first | apply execG_split | apply execC_split | apply onPick_split) <;> intro h <;> try simp only [h]))
          refine exec_gh1 (weak_of (s' := ⟨[(0, .d (.sl false 1 (bytesD code))), (3, .d (.int .i64 st)), (4, .d (.sl false 5 (rowsD xs))), (6, .d (.bool (good st xs)))], []⟩) _ rfl ⟨⟨rfl, rfl⟩, ⟨rfl, rfl⟩, ⟨rfl, rfl⟩, ⟨rfl, rfl⟩, trivial⟩) ?_
          exact rest.out
        | false =>
          rw [ylS, hk, if_neg (by decide)] at hL1 hL2
          rw [hk] at hL3
          repeat' (first | (simp only [↓rd_row, Row.noOwn, size_row, isV_row, onC_true, ↓wA, ↓wC, wB, frzBE, frzBS, reduceEqDiff, reduceAdd, reduceSub, reduceIte, reduceCtorEq, Nat.reduceBEq, reduceLT]) | (refine call_det (hL1) rfl rfl ?_) | (refine callP_det (hL1) rfl rfl ?_) | (refine call_det (hL2) rfl rfl ?_) | (refine callP_det (hL2) rfl rfl ?_) | (refine call_det (hL3) rfl rfl ?_) | (refine callP_det (hL3) rfl rfl ?_) | ((first | apply execG_split | apply execC_split | apply onPick_split) <;> intro h <;> try simp only [h]))
          refine exec_gh1 (weak_of (s' := ⟨[(0, .d (.sl false 1 (bytesD code))), (3, .d (.int .i64 st)), (4, .d (.sl false 5 (rowsD xs))), (6, .d (.bool (good st xs)))], []⟩) _ rfl ⟨⟨rfl, rfl⟩, ⟨rfl, rfl⟩, ⟨rfl, rfl⟩, ⟨rfl, rfl⟩, trivial⟩) ?_
          exact rest.out
      clear hL1 hL2 hL3 hyl
      simp only [↓wA, ↓wC, wB, frzBE, frzBS, reduceEqDiff, reduceAdd, reduceSub, reduceIte, reduceCtorEq, Nat.reduceBEq, reduceLT]
      refine call_rel (drawParse_fn code hc) rfl fun rs h => ?_
      obtain ⟨t, rfl, htl⟩ := h
      refine ⟨.inl rfl, ?_⟩
      have hP := implParse_fn t (by omega)
      have hQ := specParse_fn t (by omega)
      rw [spyR_eq] at hQ
      obtain ⟨a, b, c, d, hpy⟩ := pyR_S t
      rw [hpy] at hP hQ
      have hR1 := implRep_fn st xs hsr (by omega)
      have hR2 := specRep_fn st xs hsr (by omega)
      have hrl := repR_le (st := st) hxl
      repeat' (first | (simp only [hno, hbb, onC_true, ↓wA, ↓wC, wB, frzBE, frzBS, reduceEqDiff, reduceAdd, reduceSub, reduceIte, reduceCtorEq, Nat.reduceBEq, reduceLT]) | (refine call_det (hP) rfl rfl ?_) | (refine callP_det (hP) rfl rfl ?_) | (refine call_det (hQ) rfl rfl ?_) | (refine callP_det (hQ) rfl rfl ?_) | (refine call_det (hR1) rfl rfl ?_) | (refine callP_det (hR1) rfl rfl ?_) | (refine call_det (hR2) rfl rfl ?_) | (refine callP_det (hR2) rfl rfl ?_) | ((first | apply execG_split | apply execC_split | apply onPick_split) <;> intro h <;> try simp only [h]))
      refine exec_range (repR st xs).length (fun i : Nat => ⟨[(4, .d (.sl false 5 (rowsD xs))), (30, .d (.str (repR st xs))), (31, .d (.bool (good st xs))), (34, .d (.int .i64 (((repR st xs).take i).count 10 : Nat))), (35, .d (.int .i64 i))], []⟩) (fun _ => True) (weak_of _ rfl ⟨⟨rfl, rfl⟩, ⟨rfl, rfl⟩, ⟨rfl, rfl⟩, ⟨rfl, rfl⟩, ⟨rfl, rfl⟩, trivial⟩) trivial ?_ ?_
      · intro i hlt _ hd h0
        obtain ⟨b, hb⟩ := get_lt hlt
        have hcn := count_snoc hb
        have hcl : ((repR st xs).take i).count 10 ≤ i := Nat.le_trans List.count_le_length (by rw [List.length_take]; omega)
        cases d1 : decide ((b.toNat : Int) = 10) with
        | true =>
          have hb10 : b = 10 := by
            have := of_decide_eq_true d1
            exact UInt8.toNat_inj.1 (by show b.toNat = 10; omega)
          rw [if_pos hb10] at hcn
          repeat' (first | (simp only [hd, h0, hb, d1, Int.toNat_natCast, onC_true, ↓wA, ↓wC, wB, frzBE, frzBS, reduceEqDiff, reduceAdd, reduceSub, reduceIte, reduceCtorEq, Nat.reduceBEq, reduceLT]) | (with_reducible refine onI_bare ?_ ?_; focus (simp only [InR]; omega)) | ((first | apply execG_split | apply execC_split | apply onPick_split) <;> intro h <;> try simp only [h]))
          exact ⟨i + 1, by rw [hcn]; exact (weak_of _ rfl ⟨⟨rfl, rfl⟩, ⟨rfl, rfl⟩, ⟨rfl, rfl⟩, ⟨rfl, rfl⟩, ⟨rfl, rfl⟩, trivial⟩), by omega, by omega⟩
        | false =>
          have hb10 : ¬ b = 10 := fun e => of_decide_eq_false d1 (by rw [e]; rfl)
          rw [if_neg hb10, Int.add_zero] at hcn
          repeat' (first | (simp only [hd, h0, hb, d1, Int.toNat_natCast, onC_true, ↓wA, ↓wC, wB, frzBE, frzBS, reduceEqDiff, reduceAdd, reduceSub, reduceIte, reduceCtorEq, Nat.reduceBEq, reduceLT]) | (with_reducible refine onI_bare ?_ ?_; focus (simp only [InR]; omega)) | ((first | apply execG_split | apply execC_split | apply onPick_split) <;> intro h <;> try simp only [h]))
          exact ⟨i + 1, by rw [hcn]; exact (weak_of _ rfl ⟨⟨rfl, rfl⟩, ⟨rfl, rfl⟩, ⟨rfl, rfl⟩, ⟨rfl, rfl⟩, ⟨rfl, rfl⟩, trivial⟩), by omega, by omega⟩
      · intro _ hd
        cases hg : good st xs with
        | false =>
          repeat' (first | (simp only [hd, hg, dl_len, onC_true, ↓wA, ↓wC, wB, frzBE, frzBS, reduceEqDiff, reduceAdd, reduceSub, reduceIte, reduceCtorEq, Nat.reduceBEq, reduceLT]) | ((first | apply execG_split | apply execC_split | apply onPick_split) <;> intro h <;> try simp only [h]))
        | true =>
          have hct : (List.take (repR st xs).length (repR st xs)).count 10 = xs.length := by
            rw [List.take_length, repR, if_pos hg]
            exact rtx_cnt hg
          have d1 : decide ((xs.length : Int) = (xs.length : Int)) = true := decide_eq_true rfl
          repeat' (first | (simp only [hd, hg, hct, d1, dl_len, onC_true, ↓wA, ↓wC, wB, frzBE, frzBS, reduceEqDiff, reduceAdd, reduceSub, reduceIte, reduceCtorEq, Nat.reduceBEq, reduceLT]) | ((first | apply execG_split | apply execC_split | apply onPick_split) <;> intro h <;> try simp only [h]))
theorem byte_of (x : D) (h : Typed (.int .u8) x) : ∃ b : UInt8, x = .int .u8 (b.toNat : Int) ∧ True := by
  obtain ⟨n, rfl, hn⟩ := h
  have hr : 0 ≤ n ∧ n ≤ 255 := by
    simp only [Lit.wf, Bool.and_eq_true, decide_eq_true_eq] at hn
    exact hn
  refine ⟨UInt8.ofNat n.toNat, ?_, trivial⟩
  have : (UInt8.ofNat n.toNat).toNat = n.toNat := by
    rw [UInt8.toNat_ofNat']
    omega
  rw [this, Int.toNat_of_nonneg hr.1]
theorem bytes_of (x : D) (h : Typed (.sl 1 (.int .u8)) x) : ∃ code : List UInt8, x = .sl false 1 (bytesD code) := by
  obtain ⟨ds, rfl, h1, h2⟩ := h
  obtain ⟨ys, h3, _, _⟩ := typed_list (f := fun b : UInt8 => D.int .u8 (b.toNat : Int)) (P := fun _ => True) byte_of ds h2
  exact ⟨ys, by rw [h3, bytesD_dl]⟩
theorem lawFnYears (x0 : D) (h0 : Typed (.sl 1 (.int .u8)) x0) : Fn prog 3 [x0] (fun rs => rs = [.bool true]) := by
  obtain ⟨code, rfl⟩ := bytes_of x0 h0
  exact fnYears_fn code
end Go.Pe.Tryd
