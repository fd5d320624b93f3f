/- What draws: texts, records of a log, logs; What draws: logs, torn ones; the draws of the laws of logs; The law FnLog, walked -/
import Derived.Test.YtldadlpgliifdaaDoorW1
set_option maxRecDepth 100000
set_option maxHeartbeats 4000000
set_option linter.all false
namespace Go.Pe.Tryd
open Go.Proofs.Tryd
/-- a list of short texts. -/
def strsOK (B : Nat) : D → Bool
  | .nil => true
  | .cons (.str s) xs => decide (s.length ≤ B) && strsOK B xs
  | _ => false
theorem strs_list (B : Nat) : ∀ x : D, strsOK B x = true → ∃ L : List (List UInt8), x = dl D.str L ∧ ∀ s ∈ L, s.length ≤ B := by
  intro x
  induction x with
  | nil => intro _; exact ⟨[], rfl, by simp⟩
  | cons x xs _ ih =>
    intro h
    cases x with
    | str s =>
      simp only [strsOK, Bool.and_eq_true, decide_eq_true_eq] at h
      obtain ⟨L, hL, hb⟩ := ih h.2
      refine ⟨s :: L, by rw [hL]; rfl, ?_⟩
      intro t ht
      rcases List.mem_cons.1 ht with e | e
      · rw [e]; exact h.1
      · exact hb t e
    | _ => simp [strsOK] at h
  | _ => intro h; simp [strsOK] at h
theorem of_fn (code : List UInt8) (k : Nat) (seed : Int) (x : D) (B : Nat) (hc : code.length ≤ 1048576) (hk : k ≤ 999999999990) (hx : strsOK B x = true) (h0 : 0 < x.len ∧ x.len ≤ 100000) : FnM prog 67 true (curD code k seed) [.sl false 1 x]
    (fun x' rs => ∃ (s : List UInt8) (k' : Nat) (seed' : Int), x' = curD code k' seed' ∧ rs = [.str s] ∧ k ≤ k' ∧ k' ≤ k + 2 ∧ s.length ≤ B) := by
  obtain ⟨L, rfl, hL⟩ := strs_list B x hx
  rw [dl_len] at h0
  refine FnM_of' (fn := f67) (by exact func67) c67 r67 (n := 12) (by rfl) (rv := [.tmp 4]) (by rfl) (by decide) (by simp) ?_
  unfold m67
  try simp only [dl_len, ↓wA, ↓wC, wB, frzBE, frzBS, Nat.reduceEqDiff, Nat.reduceAdd, Nat.reduceSub, reduceIte, reduceCtorEq, Nat.reduceBEq, Nat.reduceLT, decide_true, sz42]
  refine callM_rel (pick_fn code k seed L.length hc hk) rfl rfl rfl ?_
  rintro _ _ ⟨m, k', s', rfl, rfl, h1, h2, h3, h4⟩
  obtain ⟨y, hy⟩ := get_lt (show m.toNat < L.length by omega)
  repeat' (first
      | (simp only [dl_len, dl_nth, h3, hy, Option.map_some, onC_true, ↓wA, ↓wC, wB, frzBE, frzBS, Nat.reduceEqDiff, Nat.reduceAdd, Nat.reduceSub, reduceIte, reduceCtorEq, Nat.reduceBEq, Nat.reduceLT, decide_true, sz42])
      | (refine execG_split (fun h => ?_) (fun h => ?_) <;> simp only [h])
      | (refine execC_split (fun h => ?_) (fun h => ?_) <;> (try simp only [h]))
      | (refine onPick_split (fun h => ?_) (fun h => ?_) <;> (try simp only [h])))
  exact ⟨y, k', s', rfl, rfl, h1, h2, hL y (List.mem_of_getElem? hy)⟩
theorem spoilt_fn (code : List UInt8) (k : Nat) (seed : Int) (t w : List UInt8) (hc : code.length ≤ 1048576) (hk : k ≤ 999999999900) (ht : t.length ≤ 100000000) (hw : 0 < w.length) (hw2 : w.length ≤ 1000) : FnM prog 55 true (curD code k seed) [.str t, .str w]
    (fun x' rs => ∃ (s : List UInt8) (k' : Nat) (seed' : Int), x' = curD code k' seed' ∧ rs = [.str s] ∧ k ≤ k' ∧ k' ≤ k + 6 ∧ s.length ≤ t.length + 1) := by
  by_cases h0 : t = []
  · have hd : decide (t = []) = true := decide_eq_true h0
    refine FnM_of' (fn := f55) (by exact func55) c55 r55 (n := 57) (by rfl) (rv := [.tmp 6]) (by rfl) (by decide) (by simp) ?_
    unfold m55
    repeat' (first
        | (simp only [hd, onC_true, ↓wA, ↓wC, wB, frzBE, frzBS, Nat.reduceEqDiff, Nat.reduceAdd, Nat.reduceSub, reduceIte, reduceCtorEq, Nat.reduceBEq, Nat.reduceLT, decide_true, sz42])
        | (with_reducible refine onC_i ?_ ?_; focus omega)
        | (refine execG_split (fun h => ?_) (fun h => ?_) <;> simp only [h])
        | (refine execC_split (fun h => ?_) (fun h => ?_) <;> (try simp only [h]))
        | (refine onPick_split (fun h => ?_) (fun h => ?_) <;> (try simp only [h])))
    exact ⟨_, k, seed, rfl, rfl, by omega, by omega, by rw [List.length_take]; omega⟩
  · have hd : decide (t = []) = false := decide_eq_false h0
    have hl0 : 0 < t.length := List.length_pos_iff.2 h0
    refine FnM_of' (fn := f55) (by exact func55) c55 r55 (n := 57) (by rfl) (rv := [.tmp 6]) (by rfl) (by decide) (by simp) ?_
    unfold m55
    repeat' (first
        | (simp only [hd, onC_true, ↓wA, ↓wC, wB, frzBE, frzBS, Nat.reduceEqDiff, Nat.reduceAdd, Nat.reduceSub, reduceIte, reduceCtorEq, Nat.reduceBEq, Nat.reduceLT, decide_true, sz42])
        | (refine execG_split (fun h => ?_) (fun h => ?_) <;> simp only [h])
        | (refine execC_split (fun h => ?_) (fun h => ?_) <;> (try simp only [h]))
        | (refine onPick_split (fun h => ?_) (fun h => ?_) <;> (try simp only [h])))
    refine callM_rel (pick_fn code k seed t.length hc (by omega)) rfl rfl rfl ?_
    rintro _ _ ⟨i, k1, s1, rfl, rfl, hk1, hk1', hi, hi'⟩
    repeat' (first
        | (simp only [onC_true, ↓wA, ↓wC, wB, frzBE, frzBS, Nat.reduceEqDiff, Nat.reduceAdd, Nat.reduceSub, reduceIte, reduceCtorEq, Nat.reduceBEq, Nat.reduceLT, decide_true, sz42])
        | (refine execG_split (fun h => ?_) (fun h => ?_) <;> simp only [h])
        | (refine execC_split (fun h => ?_) (fun h => ?_) <;> (try simp only [h]))
        | (refine onPick_split (fun h => ?_) (fun h => ?_) <;> (try simp only [h])))
    refine callM_rel (pick_fn code k1 s1 w.length hc (by omega)) rfl rfl rfl ?_
    rintro _ _ ⟨j, k2, s2, rfl, rfl, hk2, hk2', hj, hj'⟩
    have hdl : 1 ≤ (w.drop j.toNat).length := by rw [List.length_drop]; omega
    have h1l : ((w.drop j.toNat).take 1).length ≤ 1 := by rw [List.length_take]; omega
    repeat' (first
        | (simp only [onC_true, ↓wA, ↓wC, wB, frzBE, frzBS, Nat.reduceEqDiff, Nat.reduceAdd, Nat.reduceSub, reduceIte, reduceCtorEq, Nat.reduceBEq, Nat.reduceLT, decide_true, sz42])
        | (with_reducible refine onC_i ?_ ?_; focus omega)
        | (refine execG_split (fun h => ?_) (fun h => ?_) <;> simp only [h])
        | (refine execC_split (fun h => ?_) (fun h => ?_) <;> (try simp only [h]))
        | (refine onPick_split (fun h => ?_) (fun h => ?_) <;> (try simp only [h])))
    generalize hS : (w.drop j.toNat).take (1 : Int).toNat = q
    have hq : q.length ≤ 1 := by rw [← hS, List.length_take]; show min 1 _ ≤ 1; omega
    refine callM_rel (pick_fn code k2 s2 3 hc (by omega)) rfl rfl rfl ?_
    rintro _ _ ⟨m, k3, s3, rfl, rfl, hk3, hk3', hm, hm'⟩
    have l1 : (t.take i.toNat).length = i.toNat := by rw [List.length_take]; omega
    have l2 : (t.drop i.toNat).length = t.length - i.toNat := by rw [List.length_drop]
    have l3 : (t.drop (i + 1).toNat).length = t.length - (i.toNat + 1) := by rw [List.length_drop]; omega
    repeat' (first
        | (simp only [onC_true, ↓wA, ↓wC, wB, frzBE, frzBS, Nat.reduceEqDiff, Nat.reduceAdd, Nat.reduceSub, reduceIte, reduceCtorEq, Nat.reduceBEq, Nat.reduceLT, decide_true, sz42])
        | (with_reducible refine onC_i ?_ ?_; focus omega)
        | (with_reducible refine onC_i ?_ ?_; focus (simp only [List.length_append]; omega))
        | (with_reducible refine onI_bare ?_ ?_; focus (simp only [InR]; omega))
        | (refine execG_split (fun h => ?_) (fun h => ?_) <;> simp only [h])
        | (refine execC_split (fun h => ?_) (fun h => ?_) <;> (try simp only [h]))
        | (refine onPick_split (fun h => ?_) (fun h => ?_) <;> (try simp only [h])))
    all_goals exact ⟨_, k3, s3, rfl, rfl, by omega, by omega, by simp only [List.length_append]; omega⟩
theorem logRecord_fn (code : List UInt8) (k : Nat) (seed : Int) (hc : code.length ≤ 1048576) (hk : k ≤ 999999999900) : FnM prog 50 true (curD code k seed) []
    (fun x' rs => ∃ (c r : List UInt8) (k' : Nat) (seed' : Int), x' = curD code k' seed' ∧ rs = [recD c r] ∧ k ≤ k' ∧ k' ≤ k + 20 ∧ c.length ≤ 20 ∧ r.length ≤ 20) := by
  refine FnM_of' (fn := f50) (by exact func50) c50 r50 (n := 28) (by rfl) (rv := [.cell 2 42]) (by rfl) (by decide) (by simp) ?_
  unfold m50
  repeat' (first
      | (simp only [onC_true, ↓wA, ↓wC, wB, frzBE, frzBS, Nat.reduceEqDiff, Nat.reduceAdd, Nat.reduceSub, reduceIte, reduceCtorEq, Nat.reduceBEq, Nat.reduceLT, decide_true, sz42])
      | (refine execG_split (fun h => ?_) (fun h => ?_) <;> simp only [h])
      | (refine execC_split (fun h => ?_) (fun h => ?_) <;> (try simp only [h]))
      | (refine onPick_split (fun h => ?_) (fun h => ?_) <;> (try simp only [h])))
  refine call_frz 2 ?_
  simp only [frz1, frzE, frzS, D.unown, ↓wA, ↓wC, wB, frzBE, frzBS, Nat.reduceEqDiff, Nat.reduceAdd, Nat.reduceSub, reduceIte, reduceCtorEq, Nat.reduceBEq, Nat.reduceLT, decide_true, sz42]
  refine callM_rel (of_fn code k seed _ 20 hc (by omega) (by rfl) (by decide)) rfl rfl rfl ?_
  rintro _ _ ⟨c, k1, s1, rfl, rfl, hk1, hk1', hmc⟩
  repeat' (first
      | (simp only [onC_true, ↓wA, ↓wC, wB, frzBE, frzBS, Nat.reduceEqDiff, Nat.reduceAdd, Nat.reduceSub, reduceIte, reduceCtorEq, Nat.reduceBEq, Nat.reduceLT, decide_true, sz42])
      | (refine execG_split (fun h => ?_) (fun h => ?_) <;> simp only [h])
      | (refine execC_split (fun h => ?_) (fun h => ?_) <;> (try simp only [h]))
      | (refine onPick_split (fun h => ?_) (fun h => ?_) <;> (try simp only [h])))
  refine call_frz 3 ?_
  simp only [frz1, frzE, frzS, D.unown, ↓wA, ↓wC, wB, frzBE, frzBS, Nat.reduceEqDiff, Nat.reduceAdd, Nat.reduceSub, reduceIte, reduceCtorEq, Nat.reduceBEq, Nat.reduceLT, decide_true, sz42]
  refine callM_rel (of_fn code k1 s1 _ 20 hc (by omega) (by rfl) (by decide)) rfl rfl rfl ?_
  rintro _ _ ⟨r, k2, s2, rfl, rfl, hk2, hk2', hmr⟩
  repeat' (first
      | (simp only [onC_true, ↓wA, ↓wC, wB, frzBE, frzBS, Nat.reduceEqDiff, Nat.reduceAdd, Nat.reduceSub, reduceIte, reduceCtorEq, Nat.reduceBEq, Nat.reduceLT, decide_true, sz42])
      | (refine execG_split (fun h => ?_) (fun h => ?_) <;> simp only [h])
      | (refine execC_split (fun h => ?_) (fun h => ?_) <;> (try simp only [h]))
      | (refine onPick_split (fun h => ?_) (fun h => ?_) <;> (try simp only [h])))
  refine callM_rel (pick_fn code k2 s2 24 hc (by omega)) rfl rfl rfl ?_
  rintro _ _ ⟨m, k3, s3, rfl, rfl, hk3, hk3', hm, hm'⟩
  repeat' (first
      | (simp only [onC_true, ↓wA, ↓wC, wB, frzBE, frzBS, Nat.reduceEqDiff, Nat.reduceAdd, Nat.reduceSub, reduceIte, reduceCtorEq, Nat.reduceBEq, Nat.reduceLT, decide_true, sz42])
      | (refine b2s_own [0, 0, 0] rfl ?_)
      | (with_reducible refine onC_i ?_ ?_; focus omega)
      | (refine execG_split (fun h => ?_) (fun h => ?_) <;> simp only [h])
      | (refine execC_split (fun h => ?_) (fun h => ?_) <;> (try simp only [h]))
      | (refine onPick_split (fun h => ?_) (fun h => ?_) <;> (try simp only [h])))
  · skip
    refine call_frz 6 ?_
    simp only [frz1, frzE, frzS, D.unown, ↓wA, ↓wC, wB, frzBE, frzBS, Nat.reduceEqDiff, Nat.reduceAdd, Nat.reduceSub, reduceIte, reduceCtorEq, Nat.reduceBEq, Nat.reduceLT, decide_true, sz42]
    refine callM_rel (of_fn code k3 s3 _ 20 hc (by omega) (by rfl) (by decide)) rfl rfl rfl ?_
    rintro _ _ ⟨c2, k4, s4, rfl, rfl, hk4, hk4', hmc2⟩
    repeat' (first
        | (simp only [onC_true, ↓wA, ↓wC, wB, frzBE, frzBS, Nat.reduceEqDiff, Nat.reduceAdd, Nat.reduceSub, reduceIte, reduceCtorEq, Nat.reduceBEq, Nat.reduceLT, decide_true, sz42])
        | (refine execG_split (fun h => ?_) (fun h => ?_) <;> simp only [h])
        | (refine execC_split (fun h => ?_) (fun h => ?_) <;> (try simp only [h]))
        | (refine onPick_split (fun h => ?_) (fun h => ?_) <;> (try simp only [h])))
    exact ⟨_, _, k4, s4, rfl, rfl, by omega, by omega, hmc2, hmr⟩
  · skip
    refine call_frz 5 ?_
    simp only [frz1, frzE, frzS, D.unown, ↓wA, ↓wC, wB, frzBE, frzBS, Nat.reduceEqDiff, Nat.reduceAdd, Nat.reduceSub, reduceIte, reduceCtorEq, Nat.reduceBEq, Nat.reduceLT, decide_true, sz42]
    refine callM_rel (of_fn code k3 s3 _ 20 hc (by omega) (by rfl) (by decide)) rfl rfl rfl ?_
    rintro _ _ ⟨c2, k4, s4, rfl, rfl, hk4, hk4', hmc2⟩
    repeat' (first
        | (simp only [onC_true, ↓wA, ↓wC, wB, frzBE, frzBS, Nat.reduceEqDiff, Nat.reduceAdd, Nat.reduceSub, reduceIte, reduceCtorEq, Nat.reduceBEq, Nat.reduceLT, decide_true, sz42])
        | (refine execG_split (fun h => ?_) (fun h => ?_) <;> simp only [h])
        | (refine execC_split (fun h => ?_) (fun h => ?_) <;> (try simp only [h]))
        | (refine onPick_split (fun h => ?_) (fun h => ?_) <;> (try simp only [h])))
    exact ⟨_, _, k4, s4, rfl, rfl, by omega, by omega, hmc, hmc2⟩
  · exact ⟨_, _, k3, s3, rfl, rfl, by omega, by omega, hmc, hmr⟩
end Go.Pe.Tryd

set_option maxRecDepth 100000
set_option maxHeartbeats 4000000
set_option linter.all false
namespace Go.Pe.Tryd
open Go.Proofs.Tryd
theorem appR_form (d p : List UInt8) (k : Int) (c r : List UInt8) (h0 : 0 ≤ k) (h1 : k ≤ 61) : ∃ d' p' k' t, appR d p k c r = [logD d' p' k', .int .i64 t] ∧ d'.length + p'.length ≤ d.length + p.length + 1000 ∧ 0 ≤ k' ∧ k' ≤ 61 := by
  unfold appR
  split
  · rename_i h
    have hk := lv_count h.1
    have hl := line_len (k := k) (by simp only [InR]; omega) h.2
    split
    · exact ⟨d, p, k, 2, rfl, by omega, h0, h1⟩
    · exact ⟨d, _, k + 1, 0, rfl, by simp only [List.length_append, List.length_cons, List.length_nil]; omega, by omega, by omega⟩
  · exact ⟨d, p, k, 1, rfl, by omega, h0, h1⟩
theorem syncR_form (d p : List UInt8) (k : Int) (h0 : 0 ≤ k) (h1 : k ≤ 61) : ∃ d' p' k' t, syncR d p k = [logD d' p' k', .bool t] ∧ d'.length + p'.length ≤ d.length + p.length ∧ 0 ≤ k' ∧ k' ≤ 61 := by
  unfold syncR
  split
  · exact ⟨d ++ p, [], k, true, rfl, by simp, h0, h1⟩
  · exact ⟨[], [], 0, false, rfl, by simp, by omega, by omega⟩
theorem log_fn (code : List UInt8) (k : Nat) (seed : Int) (hc : code.length ≤ 1048576) (hk : k ≤ 999999999000) : FnM prog 53 true (curD code k seed) []
    (fun x' rs => ∃ (d p : List UInt8) (n : Int) (k' : Nat) (seed' : Int), x' = curD code k' seed' ∧ rs = [logD d p n] ∧ k ≤ k' ∧ k' ≤ k + 300 ∧ d.length + p.length ≤ 10000 ∧ 0 ≤ n ∧ n ≤ 61) := by
  refine FnM_of' (fn := f53) (by exact func53) c53 r53 (n := 27) (by rfl) (rv := [.cell 2 26]) (by rfl) (by decide) (by simp) ?_
  unfold m53
  repeat' (first
      | (simp only [onC_true, ↓wA, ↓wC, wB, frzBE, frzBS, Nat.reduceEqDiff, Nat.reduceAdd, Nat.reduceSub, reduceIte, reduceCtorEq, Nat.reduceBEq, Nat.reduceLT, decide_true, sz26])
      | (refine execG_split (fun h => ?_) (fun h => ?_) <;> simp only [h])
      | (refine execC_split (fun h => ?_) (fun h => ?_) <;> (try simp only [h]))
      | (refine onPick_split (fun h => ?_) (fun h => ?_) <;> (try simp only [h])))
  refine callM_rel (pick_fn code k seed 7 hc (by omega)) rfl rfl rfl ?_
  rintro _ _ ⟨n0, k1, s1, rfl, rfl, hk1, hk1', hn0, hn0'⟩
  repeat' (first
      | (simp only [onC_true, ↓wA, ↓wC, wB, frzBE, frzBS, Nat.reduceEqDiff, Nat.reduceAdd, Nat.reduceSub, reduceIte, reduceCtorEq, Nat.reduceBEq, Nat.reduceLT, decide_true, sz26])
      | (refine execG_split (fun h => ?_) (fun h => ?_) <;> simp only [h])
      | (refine execC_split (fun h => ?_) (fun h => ?_) <;> (try simp only [h]))
      | (refine onPick_split (fun h => ?_) (fun h => ?_) <;> (try simp only [h])))
  refine exec_loop (fun x : Nat × (List UInt8 × List UInt8 × Int) × Nat × Int => ⟨[(0, .ptr 0 0 []), (2, .ptr 1 0 []), (3, .ptr 2 0 []), (4, .d (.int .i64 x.1))], [.box (curD code x.2.2.1 x.2.2.2), .box (logD [] [] 0), .box (logD x.2.1.1 x.2.1.2.1 x.2.1.2.2)]⟩)
    (fun x => x.1 ≤ 6 ∧ x.2.1.1.length + x.2.1.2.1.length + 1000 * x.1 ≤ 7000 ∧ 0 ≤ x.2.1.2.2 ∧ x.2.1.2.2 ≤ 61 ∧ k ≤ x.2.2.1 ∧ x.2.2.1 + 30 * x.1 ≤ k + 230) (fun x => x.1) (n0.toNat, ([], [], 0), k1, s1)
    (weak_of _ rfl ⟨⟨rfl, rfl⟩, ⟨rfl, rfl⟩, ⟨rfl, rfl⟩, ⟨by show SV.d (.int .i64 n0) = SV.d (.int .i64 (n0.toNat : Int)); rw [Int.toNat_of_nonneg hn0], rfl⟩, trivial⟩) ⟨by simp; omega, by simp; omega, by simp, by simp, by simp; omega, by simp; omega⟩ ?_
  rintro ⟨n, ⟨d, p, c⟩, k2, s2⟩ ⟨i1, i2, i3, i4, i5, i6⟩
  simp only at i1 i2 i3 i4 i5 i6 ⊢
  cases n with
  | zero =>
    have hd : decide ((0 : Int) < ((0 : Nat) : Int)) = false := rfl
    simp only [logD]
    repeat' (first
        | (simp only [hd, onC_true, ↓wA, ↓wC, wB, frzBE, frzBS, Nat.reduceEqDiff, Nat.reduceAdd, Nat.reduceSub, reduceIte, reduceCtorEq, Nat.reduceBEq, Nat.reduceLT, decide_true, sz26])
        | (refine execG_split (fun h => ?_) (fun h => ?_) <;> simp only [h])
        | (refine execC_split (fun h => ?_) (fun h => ?_) <;> (try simp only [h]))
        | (refine onPick_split (fun h => ?_) (fun h => ?_) <;> (try simp only [h])))
    all_goals exact ⟨d, p, c, k2, s2, rfl, rfl, by omega, by omega, by omega, by omega, by omega⟩
  | succ n =>
    have hd : decide ((0 : Int) < ((n + 1 : Nat) : Int)) = true := decide_eq_true (by omega)
    have e5 : (((n + 1 : Nat) : Int) - 1) = (n : Int) := by omega
    simp only [logD]
    repeat' (first
        | (simp only [hd, onC_true, ↓wA, ↓wC, wB, frzBE, frzBS, Nat.reduceEqDiff, Nat.reduceAdd, Nat.reduceSub, reduceIte, reduceCtorEq, Nat.reduceBEq, Nat.reduceLT, decide_true, sz26])
        | (refine onJ_q ?_)
        | (refine execG_split (fun h => ?_) (fun h => ?_) <;> simp only [h])
        | (refine execC_split (fun h => ?_) (fun h => ?_) <;> (try simp only [h]))
        | (refine onPick_split (fun h => ?_) (fun h => ?_) <;> (try simp only [h])))
    refine callM_rel (logRecord_fn code k2 s2 hc (by omega)) rfl rfl rfl ?_
    rintro _ _ ⟨a, b, k3, s3, rfl, rfl, hk3, hk3', ha, hb⟩
    have hA := specAppend_fn d p c a b (by omega) (by rw [maxLen_eq]; omega) (by rw [maxLen_eq]; omega)
    obtain ⟨d', p', c', t, e, f1, f2, f3⟩ := appR_form d p c a b i3 i4
    rw [e] at hA
    simp only [logD, recD] at hA ⊢
    repeat' (first
        | (simp only [hd, onC_true, ↓wA, ↓wC, wB, frzBE, frzBS, Nat.reduceEqDiff, Nat.reduceAdd, Nat.reduceSub, reduceIte, reduceCtorEq, Nat.reduceBEq, Nat.reduceLT, decide_true, sz26])
        | (refine call_det (hA) rfl rfl ?_)
        | (refine callP_det (hA) rfl rfl ?_)
        | (refine execG_split (fun h => ?_) (fun h => ?_) <;> simp only [h])
        | (refine execC_split (fun h => ?_) (fun h => ?_) <;> (try simp only [h]))
        | (refine onPick_split (fun h => ?_) (fun h => ?_) <;> (try simp only [h])))
    refine callM_rel (one_fn code k3 s3 4 hc (by omega)) rfl rfl rfl ?_
    rintro _ _ ⟨q, k4, s4, rfl, rfl, hk4, hk4'⟩
    have hY := specSync_fn d' p' c' (by omega)
    obtain ⟨d2, p2, c2, t2, e2, g1, g2, g3⟩ := syncR_form d' p' c' f2 f3
    rw [e2] at hY
    simp only [logD] at hY ⊢
    repeat' (first
        | (simp only [hd, onC_true, ↓wA, ↓wC, wB, frzBE, frzBS, Nat.reduceEqDiff, Nat.reduceAdd, Nat.reduceSub, reduceIte, reduceCtorEq, Nat.reduceBEq, Nat.reduceLT, decide_true, sz26])
        | (refine call_det (hY) rfl rfl ?_)
        | (refine callP_det (hY) rfl rfl ?_)
        | (with_reducible refine onI_bare ?_ ?_; focus (simp only [InR]; omega))
        | (refine execG_split (fun h => ?_) (fun h => ?_) <;> simp only [h])
        | (refine execC_split (fun h => ?_) (fun h => ?_) <;> (try simp only [h]))
        | (refine onPick_split (fun h => ?_) (fun h => ?_) <;> (try simp only [h])))
    all_goals rw [e5]
    · exact ⟨(n, (d2, p2, c2), k4, s4), (weak_of _ rfl ⟨⟨rfl, rfl⟩, ⟨rfl, rfl⟩, ⟨rfl, rfl⟩, ⟨rfl, rfl⟩, trivial⟩), ⟨by simp only; omega, by simp only; omega, by simp only; omega, by simp only; omega, by simp only; omega, by simp only; omega⟩, by simp⟩
    · exact ⟨(n, (d', p', c'), k4, s4), (weak_of _ rfl ⟨⟨rfl, rfl⟩, ⟨rfl, rfl⟩, ⟨rfl, rfl⟩, ⟨rfl, rfl⟩, trivial⟩), ⟨by simp only; omega, by simp only; omega, by simp only; omega, by simp only; omega, by simp only; omega, by simp only; omega⟩, by simp⟩
theorem anyLog_fn (code : List UInt8) (k : Nat) (seed : Int) (hc : code.length ≤ 1048576) (hk : k ≤ 999999998000) : FnM prog 58 true (curD code k seed) []
    (fun x' rs => ∃ (d p : List UInt8) (n : Int) (k' : Nat) (seed' : Int), x' = curD code k' seed' ∧ rs = [logD d p n] ∧ k ≤ k' ∧ k' ≤ k + 400 ∧ d.length + p.length ≤ 30000 ∧ 0 ≤ n ∧ n ≤ 62) := by
  refine FnM_of' (fn := f58) (by exact func58) c58 r58 (n := 30) (by rfl) (rv := [.cell 2 26]) (by rfl) (by decide) (by simp) ?_
  unfold m58
  repeat' (first
      | (simp only [onC_true, ↓wA, ↓wC, wB, frzBE, frzBS, Nat.reduceEqDiff, Nat.reduceAdd, Nat.reduceSub, reduceIte, reduceCtorEq, Nat.reduceBEq, Nat.reduceLT, decide_true, sz26])
      | (refine execG_split (fun h => ?_) (fun h => ?_) <;> simp only [h])
      | (refine execC_split (fun h => ?_) (fun h => ?_) <;> (try simp only [h]))
      | (refine onPick_split (fun h => ?_) (fun h => ?_) <;> (try simp only [h])))
  refine callM_rel (log_fn code k seed hc (by omega)) rfl rfl rfl ?_
  rintro _ _ ⟨d, p, c, k1, s1, rfl, rfl, hk1, hk1', hl, hc0, hc1⟩
  simp only [logD]
  repeat' (first
      | (simp only [onC_true, ↓wA, ↓wC, wB, frzBE, frzBS, Nat.reduceEqDiff, Nat.reduceAdd, Nat.reduceSub, reduceIte, reduceCtorEq, Nat.reduceBEq, Nat.reduceLT, decide_true, sz26])
      | (refine execG_split (fun h => ?_) (fun h => ?_) <;> simp only [h])
      | (refine execC_split (fun h => ?_) (fun h => ?_) <;> (try simp only [h]))
      | (refine onPick_split (fun h => ?_) (fun h => ?_) <;> (try simp only [h])))
  refine callM_rel (pick_fn code k1 s1 24 hc (by omega)) rfl rfl rfl ?_
  rintro _ _ ⟨m, k2, s2, rfl, rfl, hk2, hk2', hm, hm'⟩
  repeat' (first
      | (simp only [onC_true, ↓wA, ↓wC, wB, frzBE, frzBS, Nat.reduceEqDiff, Nat.reduceAdd, Nat.reduceSub, reduceIte, reduceCtorEq, Nat.reduceBEq, Nat.reduceLT, decide_true, sz26])
      | (with_reducible refine onI_bare ?_ ?_; focus (simp only [InR]; omega))
      | (with_reducible refine onC_i ?_ ?_; focus omega)
      | (refine execG_split (fun h => ?_) (fun h => ?_) <;> simp only [h])
      | (refine execC_split (fun h => ?_) (fun h => ?_) <;> (try simp only [h]))
      | (refine onPick_split (fun h => ?_) (fun h => ?_) <;> (try simp only [h])))
  · exact ⟨d, p, c + 1, k2, s2, rfl, rfl, by omega, by omega, by omega, by omega, by omega⟩
  · refine callM_rel (spoilt_fn code k2 s2 p [35, 64, 10, 48, 49] hc (by omega) (by omega) (by decide) (by decide)) rfl rfl rfl ?_
    rintro _ _ ⟨s, k3, s3, rfl, rfl, hk3, hk3', hs⟩
    repeat' (first
        | (simp only [onC_true, ↓wA, ↓wC, wB, frzBE, frzBS, Nat.reduceEqDiff, Nat.reduceAdd, Nat.reduceSub, reduceIte, reduceCtorEq, Nat.reduceBEq, Nat.reduceLT, decide_true, sz26])
        | (refine execG_split (fun h => ?_) (fun h => ?_) <;> simp only [h])
        | (refine execC_split (fun h => ?_) (fun h => ?_) <;> (try simp only [h]))
        | (refine onPick_split (fun h => ?_) (fun h => ?_) <;> (try simp only [h])))
    exact ⟨d, s, c, k3, s3, rfl, rfl, by omega, by omega, by omega, by omega, by omega⟩
  · exact ⟨d ++ p, p, c, k2, s2, rfl, rfl, by omega, by omega, by simp only [List.length_append]; omega, by omega, by omega⟩
  · exact ⟨d, p, c, k2, s2, rfl, rfl, by omega, by omega, by omega, by omega, by omega⟩
theorem drawCrash_fn (code : List UInt8) (hc : code.length ≤ 1048576) : Fn prog 39 [.sl false 1 (bytesD code)] (fun rs => ∃ (d p : List UInt8) (k n : Int) (t : Bool), rs = [logD d p k, .int .i64 n, .bool t] ∧ d.length + p.length ≤ 100000) := by
  refine Fn_of' (fn := f39) (by exact func39) c39 r39 (n := 24) (by rfl) (rv := [.cell 2 26, .tmp 3, .tmp 4]) (by rfl) (by simp) ?_
  unfold m39
  repeat' (first
      | (simp only [onC_true, bytes_noOwn, ↓wA, ↓wC, wB, frzBE, frzBS, Nat.reduceEqDiff, Nat.reduceAdd, Nat.reduceSub, reduceIte, reduceCtorEq, Nat.reduceBEq, Nat.reduceLT, decide_true, sz26])
      | (refine execG_split (fun h => ?_) (fun h => ?_) <;> simp only [h])
      | (refine execC_split (fun h => ?_) (fun h => ?_) <;> (try simp only [h]))
      | (refine onPick_split (fun h => ?_) (fun h => ?_) <;> (try simp only [h])))
  refine callM_rel (anyLog_fn code 0 0 hc (by omega)) rfl rfl rfl ?_
  rintro _ _ ⟨d, p, c, k1, s1, rfl, rfl, hk1, hk1', hl, hc0, hc1⟩
  simp only [logD]
  repeat' (first
      | (simp only [onC_true, ↓wA, ↓wC, wB, frzBE, frzBS, Nat.reduceEqDiff, Nat.reduceAdd, Nat.reduceSub, reduceIte, reduceCtorEq, Nat.reduceBEq, Nat.reduceLT, decide_true, sz26])
      | (with_reducible refine onI_bare ?_ ?_; focus (simp only [InR]; omega))
      | (refine execG_split (fun h => ?_) (fun h => ?_) <;> simp only [h])
      | (refine execC_split (fun h => ?_) (fun h => ?_) <;> (try simp only [h]))
      | (refine onPick_split (fun h => ?_) (fun h => ?_) <;> (try simp only [h])))
  refine callM_rel (pick_fn code k1 s1 _ hc (by omega)) rfl rfl rfl ?_
  rintro _ _ ⟨x, k3, s3, rfl, rfl, hk3, hk3', hx, hx'⟩
  repeat' (first
      | (simp only [onC_true, ↓wA, ↓wC, wB, frzBE, frzBS, Nat.reduceEqDiff, Nat.reduceAdd, Nat.reduceSub, reduceIte, reduceCtorEq, Nat.reduceBEq, Nat.reduceLT, decide_true, sz26])
      | (refine onJ_q ?_)
      | (with_reducible refine onI_bare ?_ ?_; focus (simp only [InR]; omega))
      | (refine execG_split (fun h => ?_) (fun h => ?_) <;> simp only [h])
      | (refine execC_split (fun h => ?_) (fun h => ?_) <;> (try simp only [h]))
      | (refine onPick_split (fun h => ?_) (fun h => ?_) <;> (try simp only [h])))
  refine callM_rel (one_fn code k3 s3 2 hc (by omega)) rfl rfl rfl ?_
  rintro _ _ ⟨q, k4, s4, rfl, rfl, hk4, hk4'⟩
  repeat' (first
      | (simp only [onC_true, ↓wA, ↓wC, wB, frzBE, frzBS, Nat.reduceEqDiff, Nat.reduceAdd, Nat.reduceSub, reduceIte, reduceCtorEq, Nat.reduceBEq, Nat.reduceLT, decide_true, sz26])
      | (refine execG_split (fun h => ?_) (fun h => ?_) <;> simp only [h])
      | (refine execC_split (fun h => ?_) (fun h => ?_) <;> (try simp only [h]))
      | (refine onPick_split (fun h => ?_) (fun h => ?_) <;> (try simp only [h])))
  all_goals exact ⟨d, p, c, _, q, rfl, by omega⟩
end Go.Pe.Tryd

set_option maxRecDepth 100000
set_option maxHeartbeats 4000000
set_option linter.all false
namespace Go.Pe.Tryd
open Go.Proofs.Tryd
theorem vBig_fn (code : List UInt8) : Fn prog 29 [.sl false 1 (bytesD code)] (fun rs => rs = [.bool (decide ((65536 : Int) < (code.length : Int)))]) := by
  refine Fn_of' (fn := f29) (by exact func29) c29 r29 (n := 6) (by rfl) (rv := [.tmp 2]) (by rfl) (by simp) ?_
  unfold m29
  repeat' (first
      | (simp only [bytesD_len, ↓wA, ↓wC, wB, frzBE, frzBS, Nat.reduceEqDiff, Nat.reduceAdd, Nat.reduceSub, reduceIte, reduceCtorEq, Nat.reduceBEq, Nat.reduceLT, decide_true])
      | (refine execG_split (fun h => ?_) (fun h => ?_) <;> simp only [h])
      | (refine execC_split (fun h => ?_) (fun h => ?_) <;> (try simp only [h]))
      | (refine onPick_split (fun h => ?_) (fun h => ?_) <;> (try simp only [h])))
theorem byte_of (x : D) (h : Typed (.int .u8) x) : ∃ b : UInt8, x = .int .u8 (b.toNat : Int) ∧ True := by
  obtain ⟨n, rfl, hn⟩ := h
  have hr : 0 ≤ n ∧ n ≤ 255 := by
    simp only [Lit.wf, Bool.and_eq_true, decide_eq_true_eq] at hn
    exact hn
  refine ⟨UInt8.ofNat n.toNat, ?_, trivial⟩
  have : (UInt8.ofNat n.toNat).toNat = n.toNat := by
    rw [UInt8.toNat_ofNat']
    omega
  rw [this, Int.toNat_of_nonneg hr.1]
theorem bytes_of (x : D) (h : Typed (.sl 1 (.int .u8)) x) : ∃ code : List UInt8, x = .sl false 1 (bytesD code) := by
  obtain ⟨ds, rfl, h1, h2⟩ := h
  obtain ⟨ys, h3, _, _⟩ := typed_list (f := fun b : UInt8 => D.int .u8 (b.toNat : Int)) (P := fun _ => True) byte_of ds h2
  exact ⟨ys, by rw [h3, bytesD_dl]⟩
end Go.Pe.Tryd
