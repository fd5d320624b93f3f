/- What draws: logs, torn ones; the draws of the laws of logs; The law FnLog, walked -/
import Derived.Test.YtldadlpgliifdaaDoorW1
set_option maxRecDepth 100000
set_option maxHeartbeats 4000000
set_option linter.all false
namespace Go.Pe.Tryd
open Go.Proofs.Tryd
theorem appR_form (d p : List UInt8) (k : Int) (c r : List UInt8) (h0 : 0 ≤ k) (h1 : k ≤ 61) : ∃ d' p' k' t, appR d p k c r = [logD d' p' k', .int .i64 t] ∧ d'.length + p'.length ≤ d.length + p.length + 1000 ∧ 0 ≤ k' ∧ k' ≤ 61 := by
  unfold appR
  split
  · rename_i h
    have hk := lv_count h.1
    have hl := line_len (k := k) (by simp only [InR]; omega) h.2
    split
    · exact ⟨d, p, k, 2, rfl, by omega, h0, h1⟩
    · exact ⟨d, _, k + 1, 0, rfl, by simp only [List.length_append, List.length_cons, List.length_nil]; omega, by omega, by omega⟩
  · exact ⟨d, p, k, 1, rfl, by omega, h0, h1⟩
theorem syncR_form (d p : List UInt8) (k : Int) (h0 : 0 ≤ k) (h1 : k ≤ 61) : ∃ d' p' k' t, syncR d p k = [logD d' p' k', .bool t] ∧ d'.length + p'.length ≤ d.length + p.length ∧ 0 ≤ k' ∧ k' ≤ 61 := by
  unfold syncR
  split
  · exact ⟨d ++ p, [], k, true, rfl, by simp, h0, h1⟩
  · exact ⟨[], [], 0, false, rfl, by simp, by omega, by omega⟩
theorem log_fn (code : List UInt8) (k : Nat) (seed : Int) (hc : code.length ≤ 1048576) (hk : k ≤ 999999999000) : FnM prog 53 true (curD code k seed) []
    (fun x' rs => ∃ (d p : List UInt8) (n : Int) (k' : Nat) (seed' : Int), x' = curD code k' seed' ∧ rs = [logD d p n] ∧ k ≤ k' ∧ k' ≤ k + 300 ∧ d.length + p.length ≤ 10000 ∧ 0 ≤ n ∧ n ≤ 61) := by
  refine FnM_of' (fn := f53) (by exact func53) c53 r53 (n := 27) (by rfl) (rv := [.cell 2 26]) (by rfl) (by decide) (by simp) ?_
  unfold m53
  repeat' (first
      | (simp only [onC_true, ↓wA, ↓wC, wB, frzBE, frzBS, Nat.reduceEqDiff, Nat.reduceAdd, Nat.reduceSub, reduceIte, reduceCtorEq, Nat.reduceBEq, Nat.reduceLT, decide_true, sz26, sz42])
      | (refine execG_split (fun h => ?_) (fun h => ?_) <;> simp only [h])
      | (refine execC_split (fun h => ?_) (fun h => ?_) <;> (try simp only [h]))
      | (refine onPick_split (fun h => ?_) (fun h => ?_) <;> (try simp only [h])))
  refine callM_rel (pick_fn code k seed 7 hc (by omega)) rfl rfl rfl ?_
  rintro _ _ ⟨n0, k1, s1, rfl, rfl, hk1, hk1', hn0, hn0'⟩
  repeat' (first
      | (simp only [onC_true, ↓wA, ↓wC, wB, frzBE, frzBS, Nat.reduceEqDiff, Nat.reduceAdd, Nat.reduceSub, reduceIte, reduceCtorEq, Nat.reduceBEq, Nat.reduceLT, decide_true, sz26, sz42])
      | (refine execG_split (fun h => ?_) (fun h => ?_) <;> simp only [h])
      | (refine execC_split (fun h => ?_) (fun h => ?_) <;> (try simp only [h]))
      | (refine onPick_split (fun h => ?_) (fun h => ?_) <;> (try simp only [h])))
  refine exec_loop (fun x : Nat × (List UInt8 × List UInt8 × Int) × Nat × Int => ⟨[(0, .ptr 0 0 []), (2, .ptr 1 0 []), (3, .ptr 2 0 []), (4, .d (.int .i64 x.1))], [.box (curD code x.2.2.1 x.2.2.2), .box (logD [] [] 0), .box (logD x.2.1.1 x.2.1.2.1 x.2.1.2.2)]⟩)
    (fun x => x.1 ≤ 6 ∧ x.2.1.1.length + x.2.1.2.1.length + 1000 * x.1 ≤ 7000 ∧ 0 ≤ x.2.1.2.2 ∧ x.2.1.2.2 ≤ 61 ∧ k ≤ x.2.2.1 ∧ x.2.2.1 + 30 * x.1 ≤ k + 230) (fun x => x.1) (n0.toNat, ([], [], 0), k1, s1)
    (weak_of _ rfl ⟨⟨rfl, rfl⟩, ⟨rfl, rfl⟩, ⟨rfl, rfl⟩, ⟨by show SV.d (.int .i64 n0) = SV.d (.int .i64 (n0.toNat : Int)); rw [Int.toNat_of_nonneg hn0], rfl⟩, trivial⟩) ⟨by simp; omega, by simp; omega, by simp, by simp, by simp; omega, by simp; omega⟩ ?_
  rintro ⟨n, ⟨d, p, c⟩, k2, s2⟩ ⟨i1, i2, i3, i4, i5, i6⟩
  simp only at i1 i2 i3 i4 i5 i6 ⊢
  cases n with
  | zero =>
    have hd : decide ((0 : Int) < ((0 : Nat) : Int)) = false := rfl
    simp only [logD]
    repeat' (first
        | (simp only [hd, onC_true, ↓wA, ↓wC, wB, frzBE, frzBS, Nat.reduceEqDiff, Nat.reduceAdd, Nat.reduceSub, reduceIte, reduceCtorEq, Nat.reduceBEq, Nat.reduceLT, decide_true, sz26, sz42])
        | (refine execG_split (fun h => ?_) (fun h => ?_) <;> simp only [h])
        | (refine execC_split (fun h => ?_) (fun h => ?_) <;> (try simp only [h]))
        | (refine onPick_split (fun h => ?_) (fun h => ?_) <;> (try simp only [h])))
    all_goals exact ⟨d, p, c, k2, s2, rfl, rfl, by omega, by omega, by omega, by omega, by omega⟩
  | succ n =>
    have hd : decide ((0 : Int) < ((n + 1 : Nat) : Int)) = true := decide_eq_true (by omega)
    have e5 : (((n + 1 : Nat) : Int) - 1) = (n : Int) := by omega
    simp only [logD]
    repeat' (first
        | (simp only [hd, onC_true, ↓wA, ↓wC, wB, frzBE, frzBS, Nat.reduceEqDiff, Nat.reduceAdd, Nat.reduceSub, reduceIte, reduceCtorEq, Nat.reduceBEq, Nat.reduceLT, decide_true, sz26, sz42])
        | (refine onJ_q ?_)
        | (refine execG_split (fun h => ?_) (fun h => ?_) <;> simp only [h])
        | (refine execC_split (fun h => ?_) (fun h => ?_) <;> (try simp only [h]))
        | (refine onPick_split (fun h => ?_) (fun h => ?_) <;> (try simp only [h])))
    refine callM_rel (logRecord_fn code k2 s2 hc (by omega)) rfl rfl rfl ?_
    rintro _ _ ⟨a, b, k3, s3, rfl, rfl, hk3, hk3', ha, hb⟩
    have hA := specAppend_fn d p c a b (by omega) (by rw [maxLen_eq]; omega) (by rw [maxLen_eq]; omega)
    obtain ⟨d', p', c', t, e, f1, f2, f3⟩ := appR_form d p c a b i3 i4
    rw [e] at hA
    simp only [logD, recD] at hA ⊢
    repeat' (first
        | (simp only [hd, onC_true, ↓wA, ↓wC, wB, frzBE, frzBS, Nat.reduceEqDiff, Nat.reduceAdd, Nat.reduceSub, reduceIte, reduceCtorEq, Nat.reduceBEq, Nat.reduceLT, decide_true, sz26, sz42])
        | (refine call_det (hA) rfl rfl ?_)
        | (refine callP_det (hA) rfl rfl ?_)
        | (refine execG_split (fun h => ?_) (fun h => ?_) <;> simp only [h])
        | (refine execC_split (fun h => ?_) (fun h => ?_) <;> (try simp only [h]))
        | (refine onPick_split (fun h => ?_) (fun h => ?_) <;> (try simp only [h])))
    refine callM_rel (one_fn code k3 s3 4 hc (by omega)) rfl rfl rfl ?_
    rintro _ _ ⟨q, k4, s4, rfl, rfl, hk4, hk4'⟩
    have hY := specSync_fn d' p' c' (by omega)
    obtain ⟨d2, p2, c2, t2, e2, g1, g2, g3⟩ := syncR_form d' p' c' f2 f3
    rw [e2] at hY
    simp only [logD] at hY ⊢
    repeat' (first
        | (simp only [hd, onC_true, ↓wA, ↓wC, wB, frzBE, frzBS, Nat.reduceEqDiff, Nat.reduceAdd, Nat.reduceSub, reduceIte, reduceCtorEq, Nat.reduceBEq, Nat.reduceLT, decide_true, sz26, sz42])
        | (refine call_det (hY) rfl rfl ?_)
        | (refine callP_det (hY) rfl rfl ?_)
        | (with_reducible refine onI_bare ?_ ?_; focus (simp only [InR]; omega))
        | (refine execG_split (fun h => ?_) (fun h => ?_) <;> simp only [h])
        | (refine execC_split (fun h => ?_) (fun h => ?_) <;> (try simp only [h]))
        | (refine onPick_split (fun h => ?_) (fun h => ?_) <;> (try simp only [h])))
    all_goals rw [e5]
    · exact ⟨(n, (d2, p2, c2), k4, s4), (weak_of _ rfl ⟨⟨rfl, rfl⟩, ⟨rfl, rfl⟩, ⟨rfl, rfl⟩, ⟨rfl, rfl⟩, trivial⟩), ⟨by simp only; omega, by simp only; omega, by simp only; omega, by simp only; omega, by simp only; omega, by simp only; omega⟩, by simp⟩
    · exact ⟨(n, (d', p', c'), k4, s4), (weak_of _ rfl ⟨⟨rfl, rfl⟩, ⟨rfl, rfl⟩, ⟨rfl, rfl⟩, ⟨rfl, rfl⟩, trivial⟩), ⟨by simp only; omega, by simp only; omega, by simp only; omega, by simp only; omega, by simp only; omega, by simp only; omega⟩, by simp⟩
theorem l27LineG_fn (k : Int) (c r : List UInt8) (h0 : 0 ≤ k) (hk : InR .i64 k) (h : c.length + r.length ≤ 3000) : Fn prog 46 [.int .i64 k, recD c r] (fun rs => rs = [.str (line k c r ++ [10])]) := by
  have hi := itoa_le k hk
  have hb : (body k c r).length ≤ 4000 := by simp only [body, List.length_append, List.length_cons]; omega
  have hl : (line k c r).length ≤ 5000 := by
    have := itoa_le (ck (body k c r)) (ck_InR _)
    simp only [line, sealL, List.length_append, List.length_cons]; omega
  unfold line at hl
  refine Fn_of' (fn := f46) (by exact func46) c46 r46 (n := 17) (by rfl) (rv := [.tmp 4]) (by rfl) (by simp) ?_
  unfold m46
  simp only [recD]
  repeat' (first
      | (simp only [body_eq, ↓wA, ↓wC, wB, frzBE, frzBS, Nat.reduceEqDiff, Nat.reduceAdd, Nat.reduceSub, reduceIte, reduceCtorEq, Nat.reduceBEq, Nat.reduceLT, decide_true, sz26, sz42])
      | (refine call_det (l1Num_fn k h0 hk) rfl rfl ?_)
      | (refine callP_det (l1Num_fn k h0 hk) rfl rfl ?_)
      | (refine call_det (l1Seal_fn (body k c r) hb) rfl rfl ?_)
      | (refine callP_det (l1Seal_fn (body k c r) hb) rfl rfl ?_)
      | (refine onC_i (by (try simp only [List.length_append, List.length_cons, List.length_nil]); omega) ?_)
      | (refine execG_split (fun h => ?_) (fun h => ?_) <;> simp only [h])
      | (refine execC_split (fun h => ?_) (fun h => ?_) <;> (try simp only [h]))
      | (refine onPick_split (fun h => ?_) (fun h => ?_) <;> (try simp only [h])))
  all_goals rfl
theorem line_lenG {k : Int} {c r : List UInt8} (hk : InR .i64 k) (h : c.length + r.length ≤ 3000) : (line k c r).length ≤ 5000 := by
  have hi := itoa_le k hk
  have := itoa_le (ck (body k c r)) (ck_InR _)
  have hb : (body k c r).length ≤ 4000 := by simp only [body, List.length_append, List.length_cons]; omega
  simp only [line, sealL, List.length_append, List.length_cons]; omega
theorem zeros_bytes (m : Nat) : ofL (List.replicate m (.int .u8 0)) = bytesD (List.replicate m 0) := by
  rw [bytesDl]
  unfold dl
  rw [List.map_replicate]
  rfl
theorem drawEncode_fn (code : List UInt8) (hc : code.length ≤ 1048576) : Fn prog 30 [.sl false 1 (bytesD code)] (fun rs => ∃ (k : Int) (c r : List UInt8), rs = [.int .i64 k, recD c r] ∧ c.length ≤ 20 ∧ r.length ≤ 20) := by
  refine Fn_of' (fn := f30) (by exact func30) c30 r30 (n := 15) (by rfl) (rv := [.tmp 2, .cell 3 42]) (by rfl) (by simp) ?_
  unfold m30
  repeat' (first
      | (simp only [onC_true, bytes_noOwn, ↓wA, ↓wC, wB, frzBE, frzBS, Nat.reduceEqDiff, Nat.reduceAdd, Nat.reduceSub, reduceIte, reduceCtorEq, Nat.reduceBEq, Nat.reduceLT, decide_true, sz26, sz42])
      | (refine execG_split (fun h => ?_) (fun h => ?_) <;> simp only [h])
      | (refine execC_split (fun h => ?_) (fun h => ?_) <;> (try simp only [h]))
      | (refine onPick_split (fun h => ?_) (fun h => ?_) <;> (try simp only [h])))
  refine call_frz 2 ?_
  simp only [frz1, frzE, frzS, D.unown, ↓wA, ↓wC, wB, frzBE, frzBS, Nat.reduceEqDiff, Nat.reduceAdd, Nat.reduceSub, reduceIte, reduceCtorEq, Nat.reduceBEq, Nat.reduceLT, decide_true, sz26, sz42]
  refine callM_rel (among_fn code 0 0 [0, 1, 12, 59, 60, -1] hc (by omega) (by decide) (by decide)) rfl rfl rfl ?_
  rintro _ _ ⟨z, k1, s1, rfl, rfl, hk1, hk1', hz⟩
  repeat' (first
      | (simp only [onC_true, ↓wA, ↓wC, wB, frzBE, frzBS, Nat.reduceEqDiff, Nat.reduceAdd, Nat.reduceSub, reduceIte, reduceCtorEq, Nat.reduceBEq, Nat.reduceLT, decide_true, sz26, sz42])
      | (refine execG_split (fun h => ?_) (fun h => ?_) <;> simp only [h])
      | (refine execC_split (fun h => ?_) (fun h => ?_) <;> (try simp only [h]))
      | (refine onPick_split (fun h => ?_) (fun h => ?_) <;> (try simp only [h])))
  refine callM_rel (logRecord_fn code k1 s1 hc (by omega)) rfl rfl rfl ?_
  rintro _ _ ⟨a, b, k2, s2, rfl, rfl, hk2, hk2', ha, hb⟩
  simp only [recD]
  repeat' (first
      | (simp only [onC_true, ↓wA, ↓wC, wB, frzBE, frzBS, Nat.reduceEqDiff, Nat.reduceAdd, Nat.reduceSub, reduceIte, reduceCtorEq, Nat.reduceBEq, Nat.reduceLT, decide_true, sz26, sz42])
      | (refine execG_split (fun h => ?_) (fun h => ?_) <;> simp only [h])
      | (refine execC_split (fun h => ?_) (fun h => ?_) <;> (try simp only [h]))
      | (refine onPick_split (fun h => ?_) (fun h => ?_) <;> (try simp only [h])))
  exact ⟨z, a, b, rfl, ha, hb⟩
theorem drawRecover_fn (code : List UInt8) (hc : code.length ≤ 1048576) : Fn prog 33 [.sl false 1 (bytesD code)] (fun rs => ∃ (s : List UInt8), rs = [.str s] ∧ s.length ≤ 100000) := by
  refine Fn_of' (fn := f33) (by exact func33) c33 r33 (n := 49) (by rfl) (rv := [.tmp 2]) (by rfl) (by simp) ?_
  unfold m33
  repeat' (first
      | (simp only [onC_true, bytes_noOwn, ↓wA, ↓wC, wB, frzBE, frzBS, Nat.reduceEqDiff, Nat.reduceAdd, Nat.reduceSub, reduceIte, reduceCtorEq, Nat.reduceBEq, Nat.reduceLT, decide_true, sz26, sz42])
      | (refine execG_split (fun h => ?_) (fun h => ?_) <;> simp only [h])
      | (refine execC_split (fun h => ?_) (fun h => ?_) <;> (try simp only [h]))
      | (refine onPick_split (fun h => ?_) (fun h => ?_) <;> (try simp only [h])))
  refine callM_rel (log_fn code 0 0 hc (by omega)) rfl rfl rfl ?_
  rintro _ _ ⟨d, p, c, k1, s1, rfl, rfl, hk1, hk1', hl, hc0, hc1⟩
  simp only [logD]
  repeat' (first
      | (simp only [onC_true, ↓wA, ↓wC, wB, frzBE, frzBS, Nat.reduceEqDiff, Nat.reduceAdd, Nat.reduceSub, reduceIte, reduceCtorEq, Nat.reduceBEq, Nat.reduceLT, decide_true, sz26, sz42])
      | (with_reducible refine onC_i ?_ ?_; focus omega)
      | (refine execG_split (fun h => ?_) (fun h => ?_) <;> simp only [h])
      | (refine execC_split (fun h => ?_) (fun h => ?_) <;> (try simp only [h]))
      | (refine onPick_split (fun h => ?_) (fun h => ?_) <;> (try simp only [h])))
  refine callM_rel (pick_fn code k1 s1 4 hc (by omega)) rfl rfl rfl ?_
  rintro _ _ ⟨m, k2, s2, rfl, rfl, hk2, hk2', hm, hm'⟩
  have hdp : (d ++ p).length ≤ 10000 := by rw [List.length_append]; exact hl
  repeat' (first
      | (simp only [onC_true, ↓wA, ↓wC, wB, frzBE, frzBS, Nat.reduceEqDiff, Nat.reduceAdd, Nat.reduceSub, reduceIte, reduceCtorEq, Nat.reduceBEq, Nat.reduceLT, decide_true, sz26, sz42])
      | (refine execG_split (fun h => ?_) (fun h => ?_) <;> simp only [h])
      | (refine execC_split (fun h => ?_) (fun h => ?_) <;> (try simp only [h]))
      | (refine onPick_split (fun h => ?_) (fun h => ?_) <;> (try simp only [h])))
  · refine callM_rel (spoilt_fn code k2 s2 (d ++ p) [35, 64, 10, 48, 49] hc (by omega) (by omega) (by decide) (by decide)) rfl rfl rfl ?_
    rintro _ _ ⟨s, k3, s3, rfl, rfl, hk3, hk3', hs⟩
    repeat' (first
        | (simp only [onC_true, ↓wA, ↓wC, wB, frzBE, frzBS, Nat.reduceEqDiff, Nat.reduceAdd, Nat.reduceSub, reduceIte, reduceCtorEq, Nat.reduceBEq, Nat.reduceLT, decide_true, sz26, sz42])
        | (refine execG_split (fun h => ?_) (fun h => ?_) <;> simp only [h])
        | (refine execC_split (fun h => ?_) (fun h => ?_) <;> (try simp only [h]))
        | (refine onPick_split (fun h => ?_) (fun h => ?_) <;> (try simp only [h])))
    refine callM_rel (one_fn code k3 s3 40 hc (by omega)) rfl rfl rfl ?_
    rintro _ _ ⟨b, kz, sz, rfl, rfl, hkz, hkz'⟩
    repeat' (first
        | (simp only [onC_true, ↓wA, ↓wC, wB, frzBE, frzBS, Nat.reduceEqDiff, Nat.reduceAdd, Nat.reduceSub, reduceIte, reduceCtorEq, Nat.reduceBEq, Nat.reduceLT, decide_true, sz26, sz42])
        | (refine execG_split (fun h => ?_) (fun h => ?_) <;> simp only [h])
        | (refine execC_split (fun h => ?_) (fun h => ?_) <;> (try simp only [h]))
        | (refine onPick_split (fun h => ?_) (fun h => ?_) <;> (try simp only [h])))
    · skip
      refine callM_rel (pick_fn code kz sz 2 hc (by omega)) rfl rfl rfl ?_
      rintro _ _ ⟨q, kw, sw, rfl, rfl, hkw, hkw', hq, hq'⟩
      have hq2 : 0 ≤ 30000 + q ∧ 30000 + q ≤ 30001 := by omega
      repeat' (first
          | (simp only [onC_true, ↓wA, ↓wC, wB, frzBE, frzBS, Nat.reduceEqDiff, Nat.reduceAdd, Nat.reduceSub, reduceIte, reduceCtorEq, Nat.reduceBEq, Nat.reduceLT, decide_true, sz26, sz42])
          | (with_reducible refine onI_bare ?_ ?_; focus (simp only [InR]; omega))
          | (with_reducible refine onC_i ?_ ?_; focus omega)
          | (refine b2s_own (List.replicate (30000 + q).toNat 0) (by rw [zeros_bytes]; rfl) ?_)
          | (refine execG_split (fun h => ?_) (fun h => ?_) <;> simp only [h])
          | (refine execC_split (fun h => ?_) (fun h => ?_) <;> (try simp only [h]))
          | (refine onPick_split (fun h => ?_) (fun h => ?_) <;> (try simp only [h])))
      all_goals exact ⟨_, rfl, by rw [List.length_replicate]; omega⟩
    · exact ⟨_, rfl, by omega⟩
  · have hdpl : ((d ++ p).length : Int) = (d.length : Int) + p.length := by simp
    have hT : ∀ x : Int, (List.take x.toNat (d ++ p)).length ≤ 10000 := fun x => by rw [List.length_take]; omega
    repeat' (first
        | (simp only [onC_true, List.length_append, ↓wA, ↓wC, wB, frzBE, frzBS, Nat.reduceEqDiff, Nat.reduceAdd, Nat.reduceSub, reduceIte, reduceCtorEq, Nat.reduceBEq, Nat.reduceLT, decide_true, sz26, sz42])
        | (with_reducible refine onI_bare ?_ ?_; focus (simp only [InR]; omega))
        | (refine execG_split (fun h => ?_) (fun h => ?_) <;> simp only [h])
        | (refine execC_split (fun h => ?_) (fun h => ?_) <;> (try simp only [h]))
        | (refine onPick_split (fun h => ?_) (fun h => ?_) <;> (try simp only [h])))
    refine callM_rel (pick_fn code k2 s2 _ hc (by omega)) rfl rfl rfl ?_
    rintro _ _ ⟨x, k3, s3, rfl, rfl, hk3, hk3', hx, hx'⟩
    repeat' (first
        | (simp only [onC_true, ↓wA, ↓wC, wB, frzBE, frzBS, Nat.reduceEqDiff, Nat.reduceAdd, Nat.reduceSub, reduceIte, reduceCtorEq, Nat.reduceBEq, Nat.reduceLT, decide_true, sz26, sz42])
        | (with_reducible refine onC_i ?_ ?_; focus ((try simp only [List.length_append]); omega))
        | (refine execG_split (fun h => ?_) (fun h => ?_) <;> simp only [h])
        | (refine execC_split (fun h => ?_) (fun h => ?_) <;> (try simp only [h]))
        | (refine onPick_split (fun h => ?_) (fun h => ?_) <;> (try simp only [h])))
    have hTx := hT x
    generalize hS : List.take x.toNat (d ++ p) = s at *
    refine callM_rel (one_fn code k3 s3 40 hc (by omega)) rfl rfl rfl ?_
    rintro _ _ ⟨b, kz, sz, rfl, rfl, hkz, hkz'⟩
    repeat' (first
        | (simp only [onC_true, ↓wA, ↓wC, wB, frzBE, frzBS, Nat.reduceEqDiff, Nat.reduceAdd, Nat.reduceSub, reduceIte, reduceCtorEq, Nat.reduceBEq, Nat.reduceLT, decide_true, sz26, sz42])
        | (refine execG_split (fun h => ?_) (fun h => ?_) <;> simp only [h])
        | (refine execC_split (fun h => ?_) (fun h => ?_) <;> (try simp only [h]))
        | (refine onPick_split (fun h => ?_) (fun h => ?_) <;> (try simp only [h])))
    · skip
      refine callM_rel (pick_fn code kz sz 2 hc (by omega)) rfl rfl rfl ?_
      rintro _ _ ⟨q, kw, sw, rfl, rfl, hkw, hkw', hq, hq'⟩
      have hq2 : 0 ≤ 30000 + q ∧ 30000 + q ≤ 30001 := by omega
      repeat' (first
          | (simp only [onC_true, ↓wA, ↓wC, wB, frzBE, frzBS, Nat.reduceEqDiff, Nat.reduceAdd, Nat.reduceSub, reduceIte, reduceCtorEq, Nat.reduceBEq, Nat.reduceLT, decide_true, sz26, sz42])
          | (with_reducible refine onI_bare ?_ ?_; focus (simp only [InR]; omega))
          | (with_reducible refine onC_i ?_ ?_; focus omega)
          | (refine b2s_own (List.replicate (30000 + q).toNat 0) (by rw [zeros_bytes]; rfl) ?_)
          | (refine execG_split (fun h => ?_) (fun h => ?_) <;> simp only [h])
          | (refine execC_split (fun h => ?_) (fun h => ?_) <;> (try simp only [h]))
          | (refine onPick_split (fun h => ?_) (fun h => ?_) <;> (try simp only [h])))
      all_goals exact ⟨_, rfl, by rw [List.length_replicate]; omega⟩
    · exact ⟨_, rfl, by omega⟩
  · skip
    refine callM_rel (pick_fn code k2 s2 4 hc (by omega)) rfl rfl rfl ?_
    rintro _ _ ⟨x, k3, s3, rfl, rfl, hk3, hk3', hx, hx'⟩
    repeat' (first
        | (simp only [onC_true, ↓wA, ↓wC, wB, frzBE, frzBS, Nat.reduceEqDiff, Nat.reduceAdd, Nat.reduceSub, reduceIte, reduceCtorEq, Nat.reduceBEq, Nat.reduceLT, decide_true, sz26, sz42])
        | (refine execG_split (fun h => ?_) (fun h => ?_) <;> simp only [h])
        | (refine execC_split (fun h => ?_) (fun h => ?_) <;> (try simp only [h]))
        | (refine onPick_split (fun h => ?_) (fun h => ?_) <;> (try simp only [h])))
    refine callM_rel (logRecord_fn code k3 s3 hc (by omega)) rfl rfl rfl ?_
    rintro _ _ ⟨a, b, k4, s4, rfl, rfl, hk4, hk4', ha, hb⟩
    have hLn := l27LineG_fn x a b hx (by simp only [InR]; omega) (by omega)
    have hLl := line_lenG (k := x) (c := a) (r := b) (by simp only [InR]; omega) (by omega)
    simp only [recD] at hLn ⊢
    repeat' (first
        | (simp only [onC_true, ↓wA, ↓wC, wB, frzBE, frzBS, Nat.reduceEqDiff, Nat.reduceAdd, Nat.reduceSub, reduceIte, reduceCtorEq, Nat.reduceBEq, Nat.reduceLT, decide_true, sz26, sz42])
        | (refine call_det (hLn) rfl rfl ?_)
        | (refine callP_det (hLn) rfl rfl ?_)
        | (with_reducible refine onC_i ?_ ?_; focus ((try simp only [List.length_append, List.length_cons, List.length_nil]); omega))
        | (refine execG_split (fun h => ?_) (fun h => ?_) <;> simp only [h])
        | (refine execC_split (fun h => ?_) (fun h => ?_) <;> (try simp only [h]))
        | (refine onPick_split (fun h => ?_) (fun h => ?_) <;> (try simp only [h])))
    have hTx : (d ++ (p ++ (line x a b ++ [10]))).length ≤ 20000 := by simp only [List.length_append, List.length_cons, List.length_nil]; omega
    generalize hS : d ++ (p ++ (line x a b ++ [10])) = s at *
    refine callM_rel (one_fn code k4 s4 40 hc (by omega)) rfl rfl rfl ?_
    rintro _ _ ⟨b, kz, sz, rfl, rfl, hkz, hkz'⟩
    repeat' (first
        | (simp only [onC_true, ↓wA, ↓wC, wB, frzBE, frzBS, Nat.reduceEqDiff, Nat.reduceAdd, Nat.reduceSub, reduceIte, reduceCtorEq, Nat.reduceBEq, Nat.reduceLT, decide_true, sz26, sz42])
        | (refine execG_split (fun h => ?_) (fun h => ?_) <;> simp only [h])
        | (refine execC_split (fun h => ?_) (fun h => ?_) <;> (try simp only [h]))
        | (refine onPick_split (fun h => ?_) (fun h => ?_) <;> (try simp only [h])))
    · skip
      refine callM_rel (pick_fn code kz sz 2 hc (by omega)) rfl rfl rfl ?_
      rintro _ _ ⟨q, kw, sw, rfl, rfl, hkw, hkw', hq, hq'⟩
      have hq2 : 0 ≤ 30000 + q ∧ 30000 + q ≤ 30001 := by omega
      repeat' (first
          | (simp only [onC_true, ↓wA, ↓wC, wB, frzBE, frzBS, Nat.reduceEqDiff, Nat.reduceAdd, Nat.reduceSub, reduceIte, reduceCtorEq, Nat.reduceBEq, Nat.reduceLT, decide_true, sz26, sz42])
          | (with_reducible refine onI_bare ?_ ?_; focus (simp only [InR]; omega))
          | (with_reducible refine onC_i ?_ ?_; focus omega)
          | (refine b2s_own (List.replicate (30000 + q).toNat 0) (by rw [zeros_bytes]; rfl) ?_)
          | (refine execG_split (fun h => ?_) (fun h => ?_) <;> simp only [h])
          | (refine execC_split (fun h => ?_) (fun h => ?_) <;> (try simp only [h]))
          | (refine onPick_split (fun h => ?_) (fun h => ?_) <;> (try simp only [h])))
      all_goals exact ⟨_, rfl, by rw [List.length_replicate]; omega⟩
    · exact ⟨_, rfl, by omega⟩
  · skip
    refine callM_rel (one_fn code k2 s2 40 hc (by omega)) rfl rfl rfl ?_
    rintro _ _ ⟨b, kz, sz, rfl, rfl, hkz, hkz'⟩
    repeat' (first
        | (simp only [onC_true, ↓wA, ↓wC, wB, frzBE, frzBS, Nat.reduceEqDiff, Nat.reduceAdd, Nat.reduceSub, reduceIte, reduceCtorEq, Nat.reduceBEq, Nat.reduceLT, decide_true, sz26, sz42])
        | (refine execG_split (fun h => ?_) (fun h => ?_) <;> simp only [h])
        | (refine execC_split (fun h => ?_) (fun h => ?_) <;> (try simp only [h]))
        | (refine onPick_split (fun h => ?_) (fun h => ?_) <;> (try simp only [h])))
    · skip
      refine callM_rel (pick_fn code kz sz 2 hc (by omega)) rfl rfl rfl ?_
      rintro _ _ ⟨q, kw, sw, rfl, rfl, hkw, hkw', hq, hq'⟩
      have hq2 : 0 ≤ 30000 + q ∧ 30000 + q ≤ 30001 := by omega
      repeat' (first
          | (simp only [onC_true, ↓wA, ↓wC, wB, frzBE, frzBS, Nat.reduceEqDiff, Nat.reduceAdd, Nat.reduceSub, reduceIte, reduceCtorEq, Nat.reduceBEq, Nat.reduceLT, decide_true, sz26, sz42])
          | (with_reducible refine onI_bare ?_ ?_; focus (simp only [InR]; omega))
          | (with_reducible refine onC_i ?_ ?_; focus omega)
          | (refine b2s_own (List.replicate (30000 + q).toNat 0) (by rw [zeros_bytes]; rfl) ?_)
          | (refine execG_split (fun h => ?_) (fun h => ?_) <;> simp only [h])
          | (refine execC_split (fun h => ?_) (fun h => ?_) <;> (try simp only [h]))
          | (refine onPick_split (fun h => ?_) (fun h => ?_) <;> (try simp only [h])))
      all_goals exact ⟨_, rfl, by rw [List.length_replicate]; omega⟩
    · exact ⟨_, rfl, by omega⟩
end Go.Pe.Tryd

set_option maxRecDepth 100000
set_option maxHeartbeats 4000000
set_option linter.all false
namespace Go.Pe.Tryd
open Go.Proofs.Tryd
theorem vBig_fn (code : List UInt8) : Fn prog 29 [.sl false 1 (bytesD code)] (fun rs => rs = [.bool (decide ((65536 : Int) < (code.length : Int)))]) := by
  refine Fn_of' (fn := f29) (by exact func29) c29 r29 (n := 6) (by rfl) (rv := [.tmp 2]) (by rfl) (by simp) ?_
  unfold m29
  repeat' (first
      | (simp only [bytesD_len, ↓wA, ↓wC, wB, frzBE, frzBS, Nat.reduceEqDiff, Nat.reduceAdd, Nat.reduceSub, reduceIte, reduceCtorEq, Nat.reduceBEq, Nat.reduceLT, decide_true])
      | (refine execG_split (fun h => ?_) (fun h => ?_) <;> simp only [h])
      | (refine execC_split (fun h => ?_) (fun h => ?_) <;> (try simp only [h]))
      | (refine onPick_split (fun h => ?_) (fun h => ?_) <;> (try simp only [h])))
theorem byte_of (x : D) (h : Typed (.int .u8) x) : ∃ b : UInt8, x = .int .u8 (b.toNat : Int) ∧ True := by
  obtain ⟨n, rfl, hn⟩ := h
  have hr : 0 ≤ n ∧ n ≤ 255 := by
    simp only [Lit.wf, Bool.and_eq_true, decide_eq_true_eq] at hn
    exact hn
  refine ⟨UInt8.ofNat n.toNat, ?_, trivial⟩
  have : (UInt8.ofNat n.toNat).toNat = n.toNat := by
    rw [UInt8.toNat_ofNat']
    omega
  rw [this, Int.toNat_of_nonneg hr.1]
theorem bytes_of (x : D) (h : Typed (.sl 1 (.int .u8)) x) : ∃ code : List UInt8, x = .sl false 1 (bytesD code) := by
  obtain ⟨ds, rfl, h1, h2⟩ := h
  obtain ⟨ys, h3, _, _⟩ := typed_list (f := fun b : UInt8 => D.int .u8 (b.toNat : Int)) (P := fun _ => True) byte_of ds h2
  exact ⟨ys, by rw [h3, bytesD_dl]⟩
end Go.Pe.Tryd
