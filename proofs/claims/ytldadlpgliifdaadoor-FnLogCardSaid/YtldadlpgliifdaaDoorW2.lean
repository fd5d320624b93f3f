/- What draws: logs, torn ones; the draws of the laws of logs -/
import Derived.Test.YtldadlpgliifdaaDoorW1
set_option maxRecDepth 100000
set_option maxHeartbeats 4000000
set_option linter.all false
namespace Go.Pe.Tryd
open Go.Proofs.Tryd
theorem appR_form (d p : List UInt8) (k : Int) (c r : List UInt8) (h0 : 0 ≤ k) (h1 : k ≤ 61) : ∃ d' p' k' t, appR d p k c r = [logD d' p' k', .int .i64 t] ∧ d'.length + p'.length ≤ d.length + p.length + 1000 ∧ 0 ≤ k' ∧ k' ≤ 61 := by
  unfold appR
  split
  · rename_i h
    have hk := lv_count h.1
    have hl := line_len (k := k) (by simp only [InR]; omega) h.2
    split
    · exact ⟨d, p, k, 2, rfl, by omega, h0, h1⟩
    · exact ⟨d, _, k + 1, 0, rfl, by simp only [List.length_append, List.length_cons, List.length_nil]; omega, by omega, by omega⟩
  · exact ⟨d, p, k, 1, rfl, by omega, h0, h1⟩
theorem syncR_form (d p : List UInt8) (k : Int) (h0 : 0 ≤ k) (h1 : k ≤ 61) : ∃ d' p' k' t, syncR d p k = [logD d' p' k', .bool t] ∧ d'.length + p'.length ≤ d.length + p.length ∧ 0 ≤ k' ∧ k' ≤ 61 := by
  unfold syncR
  split
  · exact ⟨d ++ p, [], k, true, rfl, by simp, h0, h1⟩
  · exact ⟨[], [], 0, false, rfl, by simp, by omega, by omega⟩
theorem log_fn (code : List UInt8) (k : Nat) (seed : Int) (hc : code.length ≤ 1048576) (hk : k ≤ 999999999000) : FnM prog 53 true (curD code k seed) []
    (fun x' rs => ∃ (d p : List UInt8) (n : Int) (k' : Nat) (seed' : Int), x' = curD code k' seed' ∧ rs = [logD d p n] ∧ k ≤ k' ∧ k' ≤ k + 300 ∧ d.length + p.length ≤ 10000 ∧ 0 ≤ n ∧ n ≤ 61) := by
  refine FnM_of' (fn := f53) (by exact func53) c53 r53 (n := 27) (by rfl) (rv := [.cell 2 26]) (by rfl) (by decide) (by simp) ?_
  unfold m53
  repeat' (first
      | (simp only [onC_true, ↓wA, ↓wC, wB, frzBE, frzBS, Nat.reduceEqDiff, Nat.reduceAdd, Nat.reduceSub, reduceIte, reduceCtorEq, Nat.reduceBEq, Nat.reduceLT, decide_true, sz26, sz42])
      | (refine execG_split (fun h => ?_) (fun h => ?_) <;> simp only [h])
      | (refine execC_split (fun h => ?_) (fun h => ?_) <;> (try simp only [h]))
      | (refine onPick_split (fun h => ?_) (fun h => ?_) <;> (try simp only [h])))
  refine callM_rel (pick_fn code k seed 7 hc (by omega)) rfl rfl rfl ?_
  rintro _ _ ⟨n0, k1, s1, rfl, rfl, hk1, hk1', hn0, hn0'⟩
  repeat' (first
      | (simp only [onC_true, ↓wA, ↓wC, wB, frzBE, frzBS, Nat.reduceEqDiff, Nat.reduceAdd, Nat.reduceSub, reduceIte, reduceCtorEq, Nat.reduceBEq, Nat.reduceLT, decide_true, sz26, sz42])
      | (refine execG_split (fun h => ?_) (fun h => ?_) <;> simp only [h])
      | (refine execC_split (fun h => ?_) (fun h => ?_) <;> (try simp only [h]))
      | (refine onPick_split (fun h => ?_) (fun h => ?_) <;> (try simp only [h])))
  refine exec_loop (fun x : Nat × (List UInt8 × List UInt8 × Int) × Nat × Int => ⟨[(0, .ptr 0 0 []), (2, .ptr 1 0 []), (3, .ptr 2 0 []), (4, .d (.int .i64 x.1))], [.box (curD code x.2.2.1 x.2.2.2), .box (logD [] [] 0), .box (logD x.2.1.1 x.2.1.2.1 x.2.1.2.2)]⟩)
    (fun x => x.1 ≤ 6 ∧ x.2.1.1.length + x.2.1.2.1.length + 1000 * x.1 ≤ 7000 ∧ 0 ≤ x.2.1.2.2 ∧ x.2.1.2.2 ≤ 61 ∧ k ≤ x.2.2.1 ∧ x.2.2.1 + 30 * x.1 ≤ k + 230) (fun x => x.1) (n0.toNat, ([], [], 0), k1, s1)
    (weak_of _ rfl ⟨⟨rfl, rfl⟩, ⟨rfl, rfl⟩, ⟨rfl, rfl⟩, ⟨by show SV.d (.int .i64 n0) = SV.d (.int .i64 (n0.toNat : Int)); rw [Int.toNat_of_nonneg hn0], rfl⟩, trivial⟩) ⟨by simp; omega, by simp; omega, by simp, by simp, by simp; omega, by simp; omega⟩ ?_
  rintro ⟨n, ⟨d, p, c⟩, k2, s2⟩ ⟨i1, i2, i3, i4, i5, i6⟩
  simp only at i1 i2 i3 i4 i5 i6 ⊢
  cases n with
  | zero =>
    have hd : decide ((0 : Int) < ((0 : Nat) : Int)) = false := rfl
    simp only [logD]
    repeat' (first
        | (simp only [hd, onC_true, ↓wA, ↓wC, wB, frzBE, frzBS, Nat.reduceEqDiff, Nat.reduceAdd, Nat.reduceSub, reduceIte, reduceCtorEq, Nat.reduceBEq, Nat.reduceLT, decide_true, sz26, sz42])
        | (refine execG_split (fun h => ?_) (fun h => ?_) <;> simp only [h])
        | (refine execC_split (fun h => ?_) (fun h => ?_) <;> (try simp only [h]))
        | (refine onPick_split (fun h => ?_) (fun h => ?_) <;> (try simp only [h])))
    all_goals exact ⟨d, p, c, k2, s2, rfl, rfl, by omega, by omega, by omega, by omega, by omega⟩
  | succ n =>
    have hd : decide ((0 : Int) < ((n + 1 : Nat) : Int)) = true := decide_eq_true (by omega)
    have e5 : (((n + 1 : Nat) : Int) - 1) = (n : Int) := by omega
    simp only [logD]
    repeat' (first
        | (simp only [hd, onC_true, ↓wA, ↓wC, wB, frzBE, frzBS, Nat.reduceEqDiff, Nat.reduceAdd, Nat.reduceSub, reduceIte, reduceCtorEq, Nat.reduceBEq, Nat.reduceLT, decide_true, sz26, sz42])
        | (refine onJ_q ?_)
        | (refine execG_split (fun h => ?_) (fun h => ?_) <;> simp only [h])
        | (refine execC_split (fun h => ?_) (fun h => ?_) <;> (try simp only [h]))
        | (refine onPick_split (fun h => ?_) (fun h => ?_) <;> (try simp only [h])))
    refine callM_rel (logRecord_fn code k2 s2 hc (by omega)) rfl rfl rfl ?_
    rintro _ _ ⟨a, b, k3, s3, rfl, rfl, hk3, hk3', ha, hb⟩
    have hA := specAppend_fn d p c a b (by omega) (by rw [maxLen_eq]; omega) (by rw [maxLen_eq]; omega)
    obtain ⟨d', p', c', t, e, f1, f2, f3⟩ := appR_form d p c a b i3 i4
    rw [e] at hA
    simp only [logD, recD] at hA ⊢
    repeat' (first
        | (simp only [hd, onC_true, ↓wA, ↓wC, wB, frzBE, frzBS, Nat.reduceEqDiff, Nat.reduceAdd, Nat.reduceSub, reduceIte, reduceCtorEq, Nat.reduceBEq, Nat.reduceLT, decide_true, sz26, sz42])
        | (refine call_det (hA) rfl rfl ?_)
        | (refine callP_det (hA) rfl rfl ?_)
        | (refine execG_split (fun h => ?_) (fun h => ?_) <;> simp only [h])
        | (refine execC_split (fun h => ?_) (fun h => ?_) <;> (try simp only [h]))
        | (refine onPick_split (fun h => ?_) (fun h => ?_) <;> (try simp only [h])))
    refine callM_rel (one_fn code k3 s3 4 hc (by omega)) rfl rfl rfl ?_
    rintro _ _ ⟨q, k4, s4, rfl, rfl, hk4, hk4'⟩
    have hY := specSync_fn d' p' c' (by omega)
    obtain ⟨d2, p2, c2, t2, e2, g1, g2, g3⟩ := syncR_form d' p' c' f2 f3
    rw [e2] at hY
    simp only [logD] at hY ⊢
    repeat' (first
        | (simp only [hd, onC_true, ↓wA, ↓wC, wB, frzBE, frzBS, Nat.reduceEqDiff, Nat.reduceAdd, Nat.reduceSub, reduceIte, reduceCtorEq, Nat.reduceBEq, Nat.reduceLT, decide_true, sz26, sz42])
        | (refine call_det (hY) rfl rfl ?_)
        | (refine callP_det (hY) rfl rfl ?_)
        | (with_reducible refine onI_bare ?_ ?_; focus (simp only [InR]; omega))
        | (refine execG_split (fun h => ?_) (fun h => ?_) <;> simp only [h])
        | (refine execC_split (fun h => ?_) (fun h => ?_) <;> (try simp only [h]))
        | (refine onPick_split (fun h => ?_) (fun h => ?_) <;> (try simp only [h])))
    all_goals rw [e5]
    · exact ⟨(n, (d2, p2, c2), k4, s4), (weak_of _ rfl ⟨⟨rfl, rfl⟩, ⟨rfl, rfl⟩, ⟨rfl, rfl⟩, ⟨rfl, rfl⟩, trivial⟩), ⟨by simp only; omega, by simp only; omega, by simp only; omega, by simp only; omega, by simp only; omega, by simp only; omega⟩, by simp⟩
    · exact ⟨(n, (d', p', c'), k4, s4), (weak_of _ rfl ⟨⟨rfl, rfl⟩, ⟨rfl, rfl⟩, ⟨rfl, rfl⟩, ⟨rfl, rfl⟩, trivial⟩), ⟨by simp only; omega, by simp only; omega, by simp only; omega, by simp only; omega, by simp only; omega, by simp only; omega⟩, by simp⟩
theorem anyLog_fn (code : List UInt8) (k : Nat) (seed : Int) (hc : code.length ≤ 1048576) (hk : k ≤ 999999998000) : FnM prog 58 true (curD code k seed) []
    (fun x' rs => ∃ (d p : List UInt8) (n : Int) (k' : Nat) (seed' : Int), x' = curD code k' seed' ∧ rs = [logD d p n] ∧ k ≤ k' ∧ k' ≤ k + 400 ∧ d.length + p.length ≤ 30000 ∧ 0 ≤ n ∧ n ≤ 62) := by
  refine FnM_of' (fn := f58) (by exact func58) c58 r58 (n := 30) (by rfl) (rv := [.cell 2 26]) (by rfl) (by decide) (by simp) ?_
  unfold m58
  repeat' (first
      | (simp only [onC_true, ↓wA, ↓wC, wB, frzBE, frzBS, Nat.reduceEqDiff, Nat.reduceAdd, Nat.reduceSub, reduceIte, reduceCtorEq, Nat.reduceBEq, Nat.reduceLT, decide_true, sz26, sz42])
      | (refine execG_split (fun h => ?_) (fun h => ?_) <;> simp only [h])
      | (refine execC_split (fun h => ?_) (fun h => ?_) <;> (try simp only [h]))
      | (refine onPick_split (fun h => ?_) (fun h => ?_) <;> (try simp only [h])))
  refine callM_rel (log_fn code k seed hc (by omega)) rfl rfl rfl ?_
  rintro _ _ ⟨d, p, c, k1, s1, rfl, rfl, hk1, hk1', hl, hc0, hc1⟩
  simp only [logD]
  repeat' (first
      | (simp only [onC_true, ↓wA, ↓wC, wB, frzBE, frzBS, Nat.reduceEqDiff, Nat.reduceAdd, Nat.reduceSub, reduceIte, reduceCtorEq, Nat.reduceBEq, Nat.reduceLT, decide_true, sz26, sz42])
      | (refine execG_split (fun h => ?_) (fun h => ?_) <;> simp only [h])
      | (refine execC_split (fun h => ?_) (fun h => ?_) <;> (try simp only [h]))
      | (refine onPick_split (fun h => ?_) (fun h => ?_) <;> (try simp only [h])))
  refine callM_rel (pick_fn code k1 s1 24 hc (by omega)) rfl rfl rfl ?_
  rintro _ _ ⟨m, k2, s2, rfl, rfl, hk2, hk2', hm, hm'⟩
  repeat' (first
      | (simp only [onC_true, ↓wA, ↓wC, wB, frzBE, frzBS, Nat.reduceEqDiff, Nat.reduceAdd, Nat.reduceSub, reduceIte, reduceCtorEq, Nat.reduceBEq, Nat.reduceLT, decide_true, sz26, sz42])
      | (with_reducible refine onI_bare ?_ ?_; focus (simp only [InR]; omega))
      | (with_reducible refine onC_i ?_ ?_; focus omega)
      | (refine execG_split (fun h => ?_) (fun h => ?_) <;> simp only [h])
      | (refine execC_split (fun h => ?_) (fun h => ?_) <;> (try simp only [h]))
      | (refine onPick_split (fun h => ?_) (fun h => ?_) <;> (try simp only [h])))
  · exact ⟨d, p, c + 1, k2, s2, rfl, rfl, by omega, by omega, by omega, by omega, by omega⟩
  · refine callM_rel (spoilt_fn code k2 s2 p [35, 64, 10, 48, 49] hc (by omega) (by omega) (by decide) (by decide)) rfl rfl rfl ?_
    rintro _ _ ⟨s, k3, s3, rfl, rfl, hk3, hk3', hs⟩
    repeat' (first
        | (simp only [onC_true, ↓wA, ↓wC, wB, frzBE, frzBS, Nat.reduceEqDiff, Nat.reduceAdd, Nat.reduceSub, reduceIte, reduceCtorEq, Nat.reduceBEq, Nat.reduceLT, decide_true, sz26, sz42])
        | (refine execG_split (fun h => ?_) (fun h => ?_) <;> simp only [h])
        | (refine execC_split (fun h => ?_) (fun h => ?_) <;> (try simp only [h]))
        | (refine onPick_split (fun h => ?_) (fun h => ?_) <;> (try simp only [h])))
    exact ⟨d, s, c, k3, s3, rfl, rfl, by omega, by omega, by omega, by omega, by omega⟩
  · exact ⟨d ++ p, p, c, k2, s2, rfl, rfl, by omega, by omega, by simp only [List.length_append]; omega, by omega, by omega⟩
  · exact ⟨d, p, c, k2, s2, rfl, rfl, by omega, by omega, by omega, by omega, by omega⟩
theorem drawAppend_fn (code : List UInt8) (hc : code.length ≤ 1048576) : Fn prog 36 [.sl false 1 (bytesD code)] (fun rs => ∃ (d p : List UInt8) (k : Int) (c r : List UInt8), rs = [logD d p k, recD c r] ∧ d.length + p.length ≤ 100000 ∧ c.length ≤ 20 ∧ r.length ≤ 20) := by
  refine Fn_of' (fn := f36) (by exact func36) c36 r36 (n := 31) (by rfl) (rv := [.cell 2 26, .cell 3 42]) (by rfl) (by simp) ?_
  unfold m36
  repeat' (first
      | (simp only [onC_true, bytes_noOwn, ↓wA, ↓wC, wB, frzBE, frzBS, Nat.reduceEqDiff, Nat.reduceAdd, Nat.reduceSub, reduceIte, reduceCtorEq, Nat.reduceBEq, Nat.reduceLT, decide_true, sz26, sz42])
      | (refine execG_split (fun h => ?_) (fun h => ?_) <;> simp only [h])
      | (refine execC_split (fun h => ?_) (fun h => ?_) <;> (try simp only [h]))
      | (refine onPick_split (fun h => ?_) (fun h => ?_) <;> (try simp only [h])))
  refine callM_rel (anyLog_fn code 0 0 hc (by omega)) rfl rfl rfl ?_
  rintro _ _ ⟨d, p, c, k1, s1, rfl, rfl, hk1, hk1', hl, hc0, hc1⟩
  simp only [logD]
  repeat' (first
      | (simp only [onC_true, ↓wA, ↓wC, wB, frzBE, frzBS, Nat.reduceEqDiff, Nat.reduceAdd, Nat.reduceSub, reduceIte, reduceCtorEq, Nat.reduceBEq, Nat.reduceLT, decide_true, sz26, sz42])
      | (refine execG_split (fun h => ?_) (fun h => ?_) <;> simp only [h])
      | (refine execC_split (fun h => ?_) (fun h => ?_) <;> (try simp only [h]))
      | (refine onPick_split (fun h => ?_) (fun h => ?_) <;> (try simp only [h])))
  refine callM_rel (one_fn code k1 s1 40 hc (by omega)) rfl rfl rfl ?_
  rintro _ _ ⟨q, k2, s2, rfl, rfl, hk2, hk2'⟩
  repeat' (first
      | (simp only [onC_true, ↓wA, ↓wC, wB, frzBE, frzBS, Nat.reduceEqDiff, Nat.reduceAdd, Nat.reduceSub, reduceIte, reduceCtorEq, Nat.reduceBEq, Nat.reduceLT, decide_true, sz26, sz42])
      | (refine execG_split (fun h => ?_) (fun h => ?_) <;> simp only [h])
      | (refine execC_split (fun h => ?_) (fun h => ?_) <;> (try simp only [h]))
      | (refine onPick_split (fun h => ?_) (fun h => ?_) <;> (try simp only [h])))
  · skip
    refine callM_rel (pick_fn code k2 s2 2 hc (by omega)) rfl rfl rfl ?_
    rintro _ _ ⟨n0, k3, s3, rfl, rfl, hk3, hk3', hn0, hn0'⟩
    repeat' (first
        | (simp only [onC_true, ↓wA, ↓wC, wB, frzBE, frzBS, Nat.reduceEqDiff, Nat.reduceAdd, Nat.reduceSub, reduceIte, reduceCtorEq, Nat.reduceBEq, Nat.reduceLT, decide_true, sz26, sz42])
        | (with_reducible refine onI_bare ?_ ?_; focus (simp only [InR]; omega))
        | (refine execG_split (fun h => ?_) (fun h => ?_) <;> simp only [h])
        | (refine execC_split (fun h => ?_) (fun h => ?_) <;> (try simp only [h]))
        | (refine onPick_split (fun h => ?_) (fun h => ?_) <;> (try simp only [h])))
    refine exec_loop (fun x : Nat × (List UInt8 × List UInt8 × Int) => ⟨[(2, .ptr 0 0 []), (3, .ptr 1 0 []), (4, .ptr 2 0 []), (5, .ptr 3 0 []), (6, .d (.int .i64 x.1))], [.box (logD [] [] 0), .box (recD [] []), .box (curD code k3 s3), .box (logD x.2.1 x.2.2.1 x.2.2.2)]⟩)
      (fun x => x.1 ≤ 60 ∧ x.2.1.length + x.2.2.1.length + 1000 * x.1 ≤ 60000 ∧ 0 ≤ x.2.2.2 ∧ x.2.2.2 ≤ 61) (fun x => x.1) ((59 + n0).toNat, ([], [], 0))
      (weak_of _ rfl ⟨⟨rfl, rfl⟩, ⟨rfl, rfl⟩, ⟨rfl, rfl⟩, ⟨rfl, rfl⟩, ⟨by show SV.d (.int .i64 (59 + n0)) = SV.d (.int .i64 ((59 + n0).toNat : Int)); rw [Int.toNat_of_nonneg (by omega)], rfl⟩, trivial⟩) ⟨by simp only; omega, by simp only [List.length_nil]; omega, by simp, by simp⟩ ?_
    rintro ⟨n, d, p, c⟩ ⟨i1, i2, i3, i4⟩
    simp only at i1 i2 i3 i4 ⊢
    cases n with
    | zero =>
      have hd : decide ((0 : Int) < ((0 : Nat) : Int)) = false := rfl
      simp only [logD, recD]
      repeat' (first
          | (simp only [hd, onC_true, ↓wA, ↓wC, wB, frzBE, frzBS, Nat.reduceEqDiff, Nat.reduceAdd, Nat.reduceSub, reduceIte, reduceCtorEq, Nat.reduceBEq, Nat.reduceLT, decide_true, sz26, sz42])
          | (refine onJ_q ?_)
          | (refine execG_split (fun h => ?_) (fun h => ?_) <;> simp only [h])
          | (refine execC_split (fun h => ?_) (fun h => ?_) <;> (try simp only [h]))
          | (refine onPick_split (fun h => ?_) (fun h => ?_) <;> (try simp only [h])))
      refine callM_rel (logRecord_fn code k3 s3 hc (by omega)) rfl rfl rfl ?_
      rintro _ _ ⟨a, b, k4, s4, rfl, rfl, hk4, hk4', ha, hb⟩
      simp only [recD]
      repeat' (first
          | (simp only [onC_true, ↓wA, ↓wC, wB, frzBE, frzBS, Nat.reduceEqDiff, Nat.reduceAdd, Nat.reduceSub, reduceIte, reduceCtorEq, Nat.reduceBEq, Nat.reduceLT, decide_true, sz26, sz42])
          | (refine execG_split (fun h => ?_) (fun h => ?_) <;> simp only [h])
          | (refine execC_split (fun h => ?_) (fun h => ?_) <;> (try simp only [h]))
          | (refine onPick_split (fun h => ?_) (fun h => ?_) <;> (try simp only [h])))
      all_goals exact ⟨d, p, c, a, b, rfl, by omega, ha, hb⟩
    | succ n =>
      have hd : decide ((0 : Int) < ((n + 1 : Nat) : Int)) = true := decide_eq_true (by omega)
      have e5 : (((n + 1 : Nat) : Int) - 1) = (n : Int) := by omega
      have hA := specAppend_fn d p c [120] [] (by omega) (by rw [maxLen_eq]; decide) (by rw [maxLen_eq]; decide)
      obtain ⟨d', p', c', t, e, f1, f2, f3⟩ := appR_form d p c [120] [] i3 i4
      rw [e] at hA
      simp only [logD, recD] at hA ⊢
      repeat' (first
          | (simp only [hd, onC_true, ↓wA, ↓wC, wB, frzBE, frzBS, Nat.reduceEqDiff, Nat.reduceAdd, Nat.reduceSub, reduceIte, reduceCtorEq, Nat.reduceBEq, Nat.reduceLT, decide_true, sz26, sz42])
          | (refine call_det (hA) rfl rfl ?_)
          | (refine callP_det (hA) rfl rfl ?_)
          | (with_reducible refine onI_bare ?_ ?_; focus (simp only [InR]; omega))
          | (refine execG_split (fun h => ?_) (fun h => ?_) <;> simp only [h])
          | (refine execC_split (fun h => ?_) (fun h => ?_) <;> (try simp only [h]))
          | (refine onPick_split (fun h => ?_) (fun h => ?_) <;> (try simp only [h])))
      all_goals rw [e5]
      exact ⟨(n, d', p', c'), (weak_of _ rfl ⟨⟨rfl, rfl⟩, ⟨rfl, rfl⟩, ⟨rfl, rfl⟩, ⟨rfl, rfl⟩, ⟨rfl, rfl⟩, trivial⟩), ⟨by simp only; omega, by simp only; omega, by simp only; omega, by simp only; omega⟩, by simp⟩
  · skip
    repeat' (first
        | (simp only [onC_true, ↓wA, ↓wC, wB, frzBE, frzBS, Nat.reduceEqDiff, Nat.reduceAdd, Nat.reduceSub, reduceIte, reduceCtorEq, Nat.reduceBEq, Nat.reduceLT, decide_true, sz26, sz42])
        | (refine onJ_q ?_)
        | (refine execG_split (fun h => ?_) (fun h => ?_) <;> simp only [h])
        | (refine execC_split (fun h => ?_) (fun h => ?_) <;> (try simp only [h]))
        | (refine onPick_split (fun h => ?_) (fun h => ?_) <;> (try simp only [h])))
    refine callM_rel (logRecord_fn code k2 s2 hc (by omega)) rfl rfl rfl ?_
    rintro _ _ ⟨a, b, k4, s4, rfl, rfl, hk4, hk4', ha, hb⟩
    simp only [recD]
    repeat' (first
        | (simp only [onC_true, ↓wA, ↓wC, wB, frzBE, frzBS, Nat.reduceEqDiff, Nat.reduceAdd, Nat.reduceSub, reduceIte, reduceCtorEq, Nat.reduceBEq, Nat.reduceLT, decide_true, sz26, sz42])
        | (refine execG_split (fun h => ?_) (fun h => ?_) <;> simp only [h])
        | (refine execC_split (fun h => ?_) (fun h => ?_) <;> (try simp only [h]))
        | (refine onPick_split (fun h => ?_) (fun h => ?_) <;> (try simp only [h])))
    all_goals exact ⟨d, p, c, a, b, rfl, by omega, ha, hb⟩
end Go.Pe.Tryd
