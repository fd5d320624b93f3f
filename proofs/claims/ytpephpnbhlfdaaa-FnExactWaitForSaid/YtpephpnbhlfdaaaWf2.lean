/- Who waits for a party, as the reference has it, walked. -/
import Derived.Test.YtpephpnbhlfdaaaWf1
set_option maxRecDepth 100000
set_option maxHeartbeats 4000000
set_option linter.all false
namespace Go.Pe.Try
open Go.Proofs.Try
theorem frzV {s : St} (q : Nat) {x : D} (hq : s.o[q]? = some (.val x)) : Weak s ⟨frzE q x.unown s.e, s.o.set q .dead⟩ := by
  intro c C a w hr
  have h := frz1_sound q hr
  have e : frz1 q s = ⟨frzE q x.unown s.e, s.o.set q .dead⟩ := frz1_val (e := s.e) hq
  rw [e] at h
  exact h
theorem l24Party_fn (n : Int) : Fn prog 30 [.int .i64 n] (fun rs => rs = [.bool (within n 1 50)]) := by
  have h := l1In_fn n 1 50
  refine Fn_of' (fn := f30) (by exact func30) c30 r30 (n := 5) (by rfl) (rv := [.tmp 2]) (by rfl) (by simp) ?_
  unfold m30
  repeat' (first
      | (simp only [↓wA, ↓wC, wB, frzBE, frzBS, Nat.reduceEqDiff, Nat.reduceAdd, Nat.reduceSub, reduceIte, reduceCtorEq, Nat.reduceBEq, Nat.reduceLT, decide_true])
      | (refine call_det (h) rfl rfl ?_)
      | (refine callP_det (h) rfl rfl ?_)
      | (refine execG_split (fun h => ?_) (fun h => ?_) <;> simp only [h])
      | (refine execC_split (fun h => ?_) (fun h => ?_) <;> (try simp only [h]))
      | (refine onPick_split (fun h => ?_) (fun h => ?_) <;> (try simp only [h])))
theorem specWait_fn (xs : List App) (p : Int) (hlen : xs.length ≤ 1048576) (hx : ∀ x ∈ xs, x.ok0) : Fn prog 12 [.sl false 6 (appsD xs), .int .i64 p] (fun rs => rs = waitR xs p) := by
  have hG := l24Good_fn xs hlen hx
  have hP := l24Party_fn p
  unfold waitR waitOK
  cases hg : goodA xs with
  | false =>
    rw [hg] at hG
    refine Fn_of' (fn := f12) (by exact func12) c12 r12 (n := 93) (by rfl) (rv := [.tmp 4, .tmp 5]) (by rfl) (by simp) ?_
    unfold m12
    repeat' (first
        | (simp only [↓wA, ↓wC, wB, frzBE, frzBS, Nat.reduceEqDiff, Nat.reduceAdd, Nat.reduceSub, reduceIte, reduceCtorEq, Nat.reduceBEq, Nat.reduceLT, decide_true])
        | (refine call_det (hG) rfl rfl ?_)
        | (refine callP_det (hG) rfl rfl ?_)
        | (refine call_det (hP) rfl rfl ?_)
        | (refine callP_det (hP) rfl rfl ?_)
        | (refine execG_split (fun h => ?_) (fun h => ?_) <;> simp only [h])
        | (refine execC_split (fun h => ?_) (fun h => ?_) <;> (try simp only [h]))
        | (refine onPick_split (fun h => ?_) (fun h => ?_) <;> (try simp only [h])))
    all_goals rfl
  | true =>
    rw [hg] at hG
    cases hp : within p 1 50 with
    | false =>
      rw [hp] at hP
      refine Fn_of' (fn := f12) (by exact func12) c12 r12 (n := 93) (by rfl) (rv := [.tmp 4, .tmp 5]) (by rfl) (by simp) ?_
      unfold m12
      repeat' (first
          | (simp only [↓wA, ↓wC, wB, frzBE, frzBS, Nat.reduceEqDiff, Nat.reduceAdd, Nat.reduceSub, reduceIte, reduceCtorEq, Nat.reduceBEq, Nat.reduceLT, decide_true])
          | (refine call_det (hG) rfl rfl ?_)
          | (refine callP_det (hG) rfl rfl ?_)
          | (refine call_det (hP) rfl rfl ?_)
          | (refine callP_det (hP) rfl rfl ?_)
          | (refine execG_split (fun h => ?_) (fun h => ?_) <;> simp only [h])
          | (refine execC_split (fun h => ?_) (fun h => ?_) <;> (try simp only [h]))
          | (refine onPick_split (fun h => ?_) (fun h => ?_) <;> (try simp only [h])))
      all_goals rfl
    | true =>
      rw [hp] at hP
      have hl10 := (goodA_ok hg).1
      have hdo5 : ∀ y : App, doff [5] y.d' = 5 := fun y => by simp [App.d', doff, D.pre, D.nth, D.size]
      have hdo3 : ∀ y : App, doff [3] y.d' = 3 := fun y => by simp [App.d', doff, D.pre, D.nth, D.size]
      have hdo4 : ∀ y : App, doff [4] y.d' = 4 := fun y => by simp [App.d', doff, D.pre, D.nth, D.size]
      have hdo2 : ∀ y : App, doff [2] y.d' = 2 := fun y => by simp [App.d', doff, D.pre, D.nth, D.size]
      have hdg5 : ∀ y : App, dget [5] y.d' = some (.int .i64 y.s) := fun y => rfl
      have hdg3 : ∀ y : App, dget [3] y.d' = some (.sl false 1 (dl iD y.a)) := fun y => rfl
      have hdg4 : ∀ y : App, dget [4] y.d' = some (.sl false 1 (dl iD y.h)) := fun y => rfl
      have hdg2 : ∀ y : App, dget [2] y.d' = some (.int .i64 y.d) := fun y => rfl
      have happ : ∀ (V : List App) (x : App), (dl App.d' V).app (D.cons x.d' .nil) = dl App.d' (V ++ [x]) := fun V x => app_one V x
      refine Fn_ofg (ps := [[1, 1, 1, 1, 0, 1, 0, 0, 1, 1], [1, 1, 1, 1, 0, 1, 0]]) (fn := f12) (by exact func12) c12 r12 (n := 93) (by rfl) (rv := [.tmp 4, .tmp 5]) (by rfl) (by simp) ?_
      unfold m12
      simp only [ghAll, ghAt]
      repeat' (first
          | (simp only [dl_len, ↓wA, ↓wC, wB, frzBE, frzBS, Nat.reduceEqDiff, Nat.reduceAdd, Nat.reduceSub, reduceIte, reduceCtorEq, Nat.reduceBEq, Nat.reduceLT, decide_true])
          | (refine call_det (hG) rfl rfl ?_)
          | (refine callP_det (hG) rfl rfl ?_)
          | (refine call_det (hP) rfl rfl ?_)
          | (refine callP_det (hP) rfl rfl ?_)
          | (refine execG_split (fun h => ?_) (fun h => ?_) <;> simp only [h])
          | (refine execC_split (fun h => ?_) (fun h => ?_) <;> (try simp only [h]))
          | (refine onPick_split (fun h => ?_) (fun h => ?_) <;> (try simp only [h])))
      refine exec_gh1 (frzV 1 rfl) ?_
      simp only [D.unown, ↓wA, ↓wC, wB, frzBE, frzBS, Nat.reduceEqDiff, Nat.reduceAdd, Nat.reduceSub, reduceIte, reduceCtorEq, Nat.reduceBEq, Nat.reduceLT, decide_true]
      refine exec_range xs.length (fun i : Nat => ⟨[(0, .d (.sl false 6 (appsD xs))), (1, .d (.int .i64 p)), (6, .own 0), (7, .d (.sl false 6 (dl App.d' (sortA (waitL (xs.take i) p))))), (8, .d (.int .i64 i))], [.val (.sl true 1 .nil)]⟩) (fun _ => True) (weak_of _ rfl ⟨⟨rfl, rfl⟩, ⟨rfl, rfl⟩, ⟨rfl, rfl⟩, ⟨rfl, rfl⟩, ⟨rfl, rfl⟩, trivial⟩) trivial ?_ ?_
      · intro i hlt _ hd h0
        obtain ⟨x, hr⟩ := get_lt hlt
        have hm := List.mem_of_getElem? hr
        have hA := l1Has_fn x.a p (hx x hm).1
        have hH := l1Has_fn x.h p (hx x hm).2
        have hsn := waitL_snoc (p := p) hr
        have hvl : (sortA (waitL (xs.take i) p)).length ≤ 10 := by rw [sortA_len]; exact Nat.le_trans (waitL_len _ _) (by simp; omega)
        have hup := sortA_up (waitL (xs.take i) p)
        have skip : waitA x p = false → waitL (xs.take (i + 1)) p = waitL (xs.take i) p := fun h => by rw [hsn, h]; simp
        have took : waitA x p = true → sortA (waitL (xs.take (i + 1)) p) = insA x (sortA (waitL (xs.take i) p)) := fun h => by rw [hsn, h, if_pos rfl, sortA_snoc]
        cases hs : decide (x.s = 0) with
        | false =>
          have hk := skip (by unfold waitA; rw [hs]; rfl)
          repeat' (first
              | (simp only [dl_len, hd, h0, dl_nth, Int.toNat_natCast, hr, Option.map_some, onC_true, ↓rd_app, oa_size, oa_isV, App.noOwn, hdo5, hdg5, hs, ↓wA, ↓wC, wB, frzBE, frzBS, Nat.reduceEqDiff, Nat.reduceAdd, Nat.reduceSub, reduceIte, reduceCtorEq, Nat.reduceBEq, Nat.reduceLT, decide_true])
              | (refine execG_split (fun h => ?_) (fun h => ?_) <;> simp only [h])
              | (refine execC_split (fun h => ?_) (fun h => ?_) <;> (try simp only [h]))
              | (refine onPick_split (fun h => ?_) (fun h => ?_) <;> (try simp only [h])))
          refine exec_gh1 (Weak.refl _) ?_
          repeat' (first
              | (simp only [hs, ↓wA, ↓wC, wB, frzBE, frzBS, Nat.reduceEqDiff, Nat.reduceAdd, Nat.reduceSub, reduceIte, reduceCtorEq, Nat.reduceBEq, Nat.reduceLT, decide_true])
              | (with_reducible refine onI_bare ?_ ?_; focus (simp only [InR]; omega))
              | (refine execG_split (fun h => ?_) (fun h => ?_) <;> simp only [h])
              | (refine execC_split (fun h => ?_) (fun h => ?_) <;> (try simp only [h]))
              | (refine onPick_split (fun h => ?_) (fun h => ?_) <;> (try simp only [h])))
          refine ⟨i + 1, ?_, by omega, by omega⟩
          rw [hk]
          exact (weak_of _ rfl ⟨⟨rfl, rfl⟩, ⟨rfl, rfl⟩, ⟨rfl, rfl⟩, ⟨rfl, rfl⟩, ⟨rfl, rfl⟩, trivial⟩)
        | true =>
          cases ha : x.a.contains p with
          | false =>
            rw [ha] at hA
            have hk := skip (by unfold waitA; rw [hs, ha]; rfl)
            repeat' (first
                | (simp only [dl_len, hd, h0, dl_nth, Int.toNat_natCast, hr, Option.map_some, onC_true, ↓rd_app, oa_size, oa_isV, App.noOwn, ints_noOwn, hdo5, hdg5, hdo3, hdg3, hs, ↓wA, ↓wC, wB, frzBE, frzBS, Nat.reduceEqDiff, Nat.reduceAdd, Nat.reduceSub, reduceIte, reduceCtorEq, Nat.reduceBEq, Nat.reduceLT, decide_true])
                | (refine call_det (hA) rfl rfl ?_)
                | (refine callP_det (hA) rfl rfl ?_)
                | (refine execG_split (fun h => ?_) (fun h => ?_) <;> simp only [h])
                | (refine execC_split (fun h => ?_) (fun h => ?_) <;> (try simp only [h]))
                | (refine onPick_split (fun h => ?_) (fun h => ?_) <;> (try simp only [h])))
            refine exec_gh1 (Weak.refl _) ?_
            repeat' (first
                | (simp only [hs, ↓wA, ↓wC, wB, frzBE, frzBS, Nat.reduceEqDiff, Nat.reduceAdd, Nat.reduceSub, reduceIte, reduceCtorEq, Nat.reduceBEq, Nat.reduceLT, decide_true])
                | (with_reducible refine onI_bare ?_ ?_; focus (simp only [InR]; omega))
                | (refine execG_split (fun h => ?_) (fun h => ?_) <;> simp only [h])
                | (refine execC_split (fun h => ?_) (fun h => ?_) <;> (try simp only [h]))
                | (refine onPick_split (fun h => ?_) (fun h => ?_) <;> (try simp only [h])))
            refine ⟨i + 1, ?_, by omega, by omega⟩
            rw [hk]
            exact (weak_of _ rfl ⟨⟨rfl, rfl⟩, ⟨rfl, rfl⟩, ⟨rfl, rfl⟩, ⟨rfl, rfl⟩, ⟨rfl, rfl⟩, trivial⟩)
          | true =>
            rw [ha] at hA
            cases hh : x.h.contains p with
            | true =>
              rw [hh] at hH
              have hk := skip (by unfold waitA; rw [hs, ha, hh]; rfl)
              repeat' (first
                  | (simp only [dl_len, hd, h0, dl_nth, Int.toNat_natCast, hr, Option.map_some, onC_true, ↓rd_app, oa_size, oa_isV, App.noOwn, ints_noOwn, hdo5, hdg5, hdo3, hdg3, hdo4, hdg4, hs, ↓wA, ↓wC, wB, frzBE, frzBS, Nat.reduceEqDiff, Nat.reduceAdd, Nat.reduceSub, reduceIte, reduceCtorEq, Nat.reduceBEq, Nat.reduceLT, decide_true])
                  | (refine call_det (hA) rfl rfl ?_)
                  | (refine callP_det (hA) rfl rfl ?_)
                  | (refine call_det (hH) rfl rfl ?_)
                  | (refine callP_det (hH) rfl rfl ?_)
                  | (refine execG_split (fun h => ?_) (fun h => ?_) <;> simp only [h])
                  | (refine execC_split (fun h => ?_) (fun h => ?_) <;> (try simp only [h]))
                  | (refine onPick_split (fun h => ?_) (fun h => ?_) <;> (try simp only [h])))
              refine exec_gh1 (Weak.refl _) ?_
              repeat' (first
                  | (simp only [hs, ↓wA, ↓wC, wB, frzBE, frzBS, Nat.reduceEqDiff, Nat.reduceAdd, Nat.reduceSub, reduceIte, reduceCtorEq, Nat.reduceBEq, Nat.reduceLT, decide_true])
                  | (with_reducible refine onI_bare ?_ ?_; focus (simp only [InR]; omega))
                  | (refine execG_split (fun h => ?_) (fun h => ?_) <;> simp only [h])
                  | (refine execC_split (fun h => ?_) (fun h => ?_) <;> (try simp only [h]))
                  | (refine onPick_split (fun h => ?_) (fun h => ?_) <;> (try simp only [h])))
              refine ⟨i + 1, ?_, by omega, by omega⟩
              rw [hk]
              exact (weak_of _ rfl ⟨⟨rfl, rfl⟩, ⟨rfl, rfl⟩, ⟨rfl, rfl⟩, ⟨rfl, rfl⟩, ⟨rfl, rfl⟩, trivial⟩)
            | false =>
              rw [hh] at hH
              have hk := took (by unfold waitA; rw [hs, ha, hh]; rfl)
              generalize hV : sortA (waitL (xs.take i) p) = V at hvl hup hk ⊢
              have hs1 : ∀ k, (dl App.d' V).sub 0 k = dl App.d' (V.take k) := fun k => by rw [dl_sub]; rfl
              have hs2 : ∀ k, (dl App.d' V).sub k V.length = dl App.d' (V.drop k) := fun k => by rw [dl_sub, List.take_length]
              repeat' (first
                  | (simp only [dl_len, hd, h0, dl_nth, Int.toNat_natCast, hr, Option.map_some, onC_true, ↓rd_app, oa_size, oa_isV, App.noOwn, ints_noOwn, hdo5, hdg5, hdo3, hdg3, hdo4, hdg4, hs, ↓wA, ↓wC, wB, frzBE, frzBS, Nat.reduceEqDiff, Nat.reduceAdd, Nat.reduceSub, reduceIte, reduceCtorEq, Nat.reduceBEq, Nat.reduceLT, decide_true])
                  | (refine call_det (hA) rfl rfl ?_)
                  | (refine callP_det (hA) rfl rfl ?_)
                  | (refine call_det (hH) rfl rfl ?_)
                  | (refine callP_det (hH) rfl rfl ?_)
                  | (refine execG_split (fun h => ?_) (fun h => ?_) <;> simp only [h])
                  | (refine execC_split (fun h => ?_) (fun h => ?_) <;> (try simp only [h]))
                  | (refine onPick_split (fun h => ?_) (fun h => ?_) <;> (try simp only [h])))
              refine exec_loop (fun k : Nat => ⟨[(0, .d (.sl false 6 (appsD xs))), (1, .d (.int .i64 p)), (6, .own 0), (7, .d (.sl false 6 (dl App.d' V))), (8, .d (.int .i64 i)), (9, .ptr 1 0 []), (10, .d (.int .i64 k))], [.val (.sl true 1 .nil), .box x.d']⟩) (fun k => k ≤ V.length ∧ ∀ y, V[k]? = some y → ¬ y.d ≤ x.d) (fun k => k) V.length (weak_of _ rfl ⟨⟨rfl, rfl⟩, ⟨rfl, rfl⟩, ⟨rfl, rfl⟩, ⟨rfl, rfl⟩, ⟨rfl, rfl⟩, ⟨rfl, rfl⟩, ⟨rfl, rfl⟩, trivial⟩) ⟨Nat.le_refl _, fun y hy => absurd (lt_of_get hy) (by omega)⟩ ?_
              rintro k ⟨hkl, hkx⟩
              have h0k : (0 : Int) ≤ (k : Int) := by omega
              have hun : ∀ L : List App, (dl App.d' L).unown = dl App.d' L := fun L => dl_unown App.unown L
              by_cases hk0 : k = 0
              · have hf := insA_eq V k hkl (fun m y hm' _ => by omega) hkx
                have h1 : decide (0 < (k : Int)) = false := decide_eq_false (by omega)
                have hap2 : (dl App.d' (V.take k ++ [x])).app (dl App.d' (V.drop k)) = dl App.d' (insA x V) := by rw [dl_app, List.append_assoc, ← hf]; rfl
                repeat' (first
                    | (simp only [h0k, dl_len, h1, hs1, hs2, happ, onC_true, ↓rd_app, oa_size, oa_isV, App.noOwn, Int.toNat_natCast, ↓wA, ↓wC, wB, frzBE, frzBS, Nat.reduceEqDiff, Nat.reduceAdd, Nat.reduceSub, reduceIte, reduceCtorEq, Nat.reduceBEq, Nat.reduceLT, decide_true])
                    | (refine onJ_q ?_)
                    | (with_reducible refine And.intro ?_ ?_)
                    | (with_reducible refine onC_i ?_ ?_; focus omega)
                    | (with_reducible refine onC_i ?_ ?_; focus (simp only [List.length_take, List.length_drop]; omega))
                    | (with_reducible refine onC_i ?_ ?_; focus (simp; done))
                    | (with_reducible refine onI_bare ?_ ?_; focus (simp only [InR]; omega))
                    | (refine execG_split (fun h => ?_) (fun h => ?_) <;> simp only [h])
                    | (refine execC_split (fun h => ?_) (fun h => ?_) <;> (try simp only [h]))
                    | (refine onPick_split (fun h => ?_) (fun h => ?_) <;> (try simp only [h])))
                · try (with_reducible refine onC_i (by simp only [List.length_take, List.length_drop]; omega) ?_)
                  refine exec_gh1 (frzV 2 rfl) ?_
                  simp only [frzE, frzS, D.unown, hap2, hun, ↓wA, ↓wC, wB, frzBE, frzBS, Nat.reduceEqDiff, Nat.reduceAdd, Nat.reduceSub, reduceIte, reduceCtorEq, Nat.reduceBEq, Nat.reduceLT, decide_true]
                  repeat' (first
                      | (simp only [hs, ↓wA, ↓wC, wB, frzBE, frzBS, Nat.reduceEqDiff, Nat.reduceAdd, Nat.reduceSub, reduceIte, reduceCtorEq, Nat.reduceBEq, Nat.reduceLT, decide_true])
                      | (with_reducible refine onI_bare ?_ ?_; focus (simp only [InR]; omega))
                      | (refine execG_split (fun h => ?_) (fun h => ?_) <;> simp only [h])
                      | (refine execC_split (fun h => ?_) (fun h => ?_) <;> (try simp only [h]))
                      | (refine onPick_split (fun h => ?_) (fun h => ?_) <;> (try simp only [h])))
                  refine ⟨i + 1, ?_, by omega, by omega⟩
                  rw [hk]
                  exact (weak_of _ rfl ⟨⟨rfl, rfl⟩, ⟨rfl, rfl⟩, ⟨rfl, rfl⟩, ⟨rfl, rfl⟩, ⟨rfl, rfl⟩, trivial⟩)
                · try (with_reducible refine onC_i (by simp only [List.length_take, List.length_drop]; omega) ?_)
                  refine exec_gh1 (frzV 2 rfl) ?_
                  simp only [frzE, frzS, D.unown, hap2, hun, ↓wA, ↓wC, wB, frzBE, frzBS, Nat.reduceEqDiff, Nat.reduceAdd, Nat.reduceSub, reduceIte, reduceCtorEq, Nat.reduceBEq, Nat.reduceLT, decide_true]
                  repeat' (first
                      | (simp only [hs, ↓wA, ↓wC, wB, frzBE, frzBS, Nat.reduceEqDiff, Nat.reduceAdd, Nat.reduceSub, reduceIte, reduceCtorEq, Nat.reduceBEq, Nat.reduceLT, decide_true])
                      | (with_reducible refine onI_bare ?_ ?_; focus (simp only [InR]; omega))
                      | (refine execG_split (fun h => ?_) (fun h => ?_) <;> simp only [h])
                      | (refine execC_split (fun h => ?_) (fun h => ?_) <;> (try simp only [h]))
                      | (refine onPick_split (fun h => ?_) (fun h => ?_) <;> (try simp only [h])))
                  refine ⟨i + 1, ?_, by omega, by omega⟩
                  rw [hk]
                  exact (weak_of _ rfl ⟨⟨rfl, rfl⟩, ⟨rfl, rfl⟩, ⟨rfl, rfl⟩, ⟨rfl, rfl⟩, ⟨rfl, rfl⟩, trivial⟩)
                · try (with_reducible refine onC_i (by simp only [List.length_take, List.length_drop]; omega) ?_)
                  refine exec_gh1 (frzV 3 rfl) ?_
                  simp only [frzE, frzS, D.unown, hap2, hun, ↓wA, ↓wC, wB, frzBE, frzBS, Nat.reduceEqDiff, Nat.reduceAdd, Nat.reduceSub, reduceIte, reduceCtorEq, Nat.reduceBEq, Nat.reduceLT, decide_true]
                  repeat' (first
                      | (simp only [hs, ↓wA, ↓wC, wB, frzBE, frzBS, Nat.reduceEqDiff, Nat.reduceAdd, Nat.reduceSub, reduceIte, reduceCtorEq, Nat.reduceBEq, Nat.reduceLT, decide_true])
                      | (with_reducible refine onI_bare ?_ ?_; focus (simp only [InR]; omega))
                      | (refine execG_split (fun h => ?_) (fun h => ?_) <;> simp only [h])
                      | (refine execC_split (fun h => ?_) (fun h => ?_) <;> (try simp only [h]))
                      | (refine onPick_split (fun h => ?_) (fun h => ?_) <;> (try simp only [h])))
                  refine ⟨i + 1, ?_, by omega, by omega⟩
                  rw [hk]
                  exact (weak_of _ rfl ⟨⟨rfl, rfl⟩, ⟨rfl, rfl⟩, ⟨rfl, rfl⟩, ⟨rfl, rfl⟩, ⟨rfl, rfl⟩, trivial⟩)
              · obtain ⟨y, hy⟩ := get_lt (show k - 1 < V.length by omega)
                have h1 : decide (0 < (k : Int)) = true := decide_eq_true (by omega)
                have hn1 : ((k : Int) - 1).toNat = k - 1 := by omega
                have h0' : (0 : Int) ≤ (k : Int) - 1 := by omega
                cases hc : decide (x.d < y.d) with
                | false =>
                  have hc' := of_decide_eq_false hc
                  have hf := insA_eq V k hkl (fun m z hm' hz => by
                    by_cases e : m = k - 1
                    · subst e
                      rw [hy] at hz
                      injection hz with hz
                      rw [← hz]
                      omega
                    · have := upA_get hup (show m < k - 1 by omega) hz hy
                      omega) hkx
                  have hap2 : (dl App.d' (V.take k ++ [x])).app (dl App.d' (V.drop k)) = dl App.d' (insA x V) := by rw [dl_app, List.append_assoc, ← hf]; rfl
                  repeat' (first
                      | (simp only [h0k, hn1, h0', hc, dl_nth, hy, Option.map_some, ↓fa_app2, hdo2, hdg2, dl_len, h1, hs1, hs2, happ, onC_true, ↓rd_app, oa_size, oa_isV, App.noOwn, Int.toNat_natCast, ↓wA, ↓wC, wB, frzBE, frzBS, Nat.reduceEqDiff, Nat.reduceAdd, Nat.reduceSub, reduceIte, reduceCtorEq, Nat.reduceBEq, Nat.reduceLT, decide_true])
                      | (refine onJ_q ?_)
                      | (with_reducible refine And.intro ?_ ?_)
                      | (with_reducible refine onC_i ?_ ?_; focus omega)
                      | (with_reducible refine onC_i ?_ ?_; focus (simp only [List.length_take, List.length_drop]; omega))
                      | (with_reducible refine onC_i ?_ ?_; focus (simp; done))
                      | (with_reducible refine onI_bare ?_ ?_; focus (simp only [InR]; omega))
                      | (refine execG_split (fun h => ?_) (fun h => ?_) <;> simp only [h])
                      | (refine execC_split (fun h => ?_) (fun h => ?_) <;> (try simp only [h]))
                      | (refine onPick_split (fun h => ?_) (fun h => ?_) <;> (try simp only [h])))
                  · try (with_reducible refine onC_i (by simp only [List.length_take, List.length_drop]; omega) ?_)
                    refine exec_gh1 (frzV 2 rfl) ?_
                    simp only [frzE, frzS, D.unown, hap2, hun, ↓wA, ↓wC, wB, frzBE, frzBS, Nat.reduceEqDiff, Nat.reduceAdd, Nat.reduceSub, reduceIte, reduceCtorEq, Nat.reduceBEq, Nat.reduceLT, decide_true]
                    repeat' (first
                        | (simp only [hs, ↓wA, ↓wC, wB, frzBE, frzBS, Nat.reduceEqDiff, Nat.reduceAdd, Nat.reduceSub, reduceIte, reduceCtorEq, Nat.reduceBEq, Nat.reduceLT, decide_true])
                        | (with_reducible refine onI_bare ?_ ?_; focus (simp only [InR]; omega))
                        | (refine execG_split (fun h => ?_) (fun h => ?_) <;> simp only [h])
                        | (refine execC_split (fun h => ?_) (fun h => ?_) <;> (try simp only [h]))
                        | (refine onPick_split (fun h => ?_) (fun h => ?_) <;> (try simp only [h])))
                    refine ⟨i + 1, ?_, by omega, by omega⟩
                    rw [hk]
                    exact (weak_of _ rfl ⟨⟨rfl, rfl⟩, ⟨rfl, rfl⟩, ⟨rfl, rfl⟩, ⟨rfl, rfl⟩, ⟨rfl, rfl⟩, trivial⟩)
                  · try (with_reducible refine onC_i (by simp only [List.length_take, List.length_drop]; omega) ?_)
                    refine exec_gh1 (frzV 2 rfl) ?_
                    simp only [frzE, frzS, D.unown, hap2, hun, ↓wA, ↓wC, wB, frzBE, frzBS, Nat.reduceEqDiff, Nat.reduceAdd, Nat.reduceSub, reduceIte, reduceCtorEq, Nat.reduceBEq, Nat.reduceLT, decide_true]
                    repeat' (first
                        | (simp only [hs, ↓wA, ↓wC, wB, frzBE, frzBS, Nat.reduceEqDiff, Nat.reduceAdd, Nat.reduceSub, reduceIte, reduceCtorEq, Nat.reduceBEq, Nat.reduceLT, decide_true])
                        | (with_reducible refine onI_bare ?_ ?_; focus (simp only [InR]; omega))
                        | (refine execG_split (fun h => ?_) (fun h => ?_) <;> simp only [h])
                        | (refine execC_split (fun h => ?_) (fun h => ?_) <;> (try simp only [h]))
                        | (refine onPick_split (fun h => ?_) (fun h => ?_) <;> (try simp only [h])))
                    refine ⟨i + 1, ?_, by omega, by omega⟩
                    rw [hk]
                    exact (weak_of _ rfl ⟨⟨rfl, rfl⟩, ⟨rfl, rfl⟩, ⟨rfl, rfl⟩, ⟨rfl, rfl⟩, ⟨rfl, rfl⟩, trivial⟩)
                  · try (with_reducible refine onC_i (by simp only [List.length_take, List.length_drop]; omega) ?_)
                    refine exec_gh1 (frzV 3 rfl) ?_
                    simp only [frzE, frzS, D.unown, hap2, hun, ↓wA, ↓wC, wB, frzBE, frzBS, Nat.reduceEqDiff, Nat.reduceAdd, Nat.reduceSub, reduceIte, reduceCtorEq, Nat.reduceBEq, Nat.reduceLT, decide_true]
                    repeat' (first
                        | (simp only [hs, ↓wA, ↓wC, wB, frzBE, frzBS, Nat.reduceEqDiff, Nat.reduceAdd, Nat.reduceSub, reduceIte, reduceCtorEq, Nat.reduceBEq, Nat.reduceLT, decide_true])
                        | (with_reducible refine onI_bare ?_ ?_; focus (simp only [InR]; omega))
                        | (refine execG_split (fun h => ?_) (fun h => ?_) <;> simp only [h])
                        | (refine execC_split (fun h => ?_) (fun h => ?_) <;> (try simp only [h]))
                        | (refine onPick_split (fun h => ?_) (fun h => ?_) <;> (try simp only [h])))
                    refine ⟨i + 1, ?_, by omega, by omega⟩
                    rw [hk]
                    exact (weak_of _ rfl ⟨⟨rfl, rfl⟩, ⟨rfl, rfl⟩, ⟨rfl, rfl⟩, ⟨rfl, rfl⟩, ⟨rfl, rfl⟩, trivial⟩)
                | true =>
                  have hc' := of_decide_eq_true hc
                  repeat' (first
                      | (simp only [dl_len, h0k, h1, hn1, h0', hc, dl_nth, hy, Option.map_some, onC_true, ↓fa_app2, hdo2, hdg2, ↓wA, ↓wC, wB, frzBE, frzBS, Nat.reduceEqDiff, Nat.reduceAdd, Nat.reduceSub, reduceIte, reduceCtorEq, Nat.reduceBEq, Nat.reduceLT, decide_true])
                      | (with_reducible refine onI_bare ?_ ?_; focus (simp only [InR]; omega))
                      | (refine execG_split (fun h => ?_) (fun h => ?_) <;> simp only [h])
                      | (refine execC_split (fun h => ?_) (fun h => ?_) <;> (try simp only [h]))
                      | (refine onPick_split (fun h => ?_) (fun h => ?_) <;> (try simp only [h])))
                  rw [show (k : Int) - 1 = ((k - 1 : Nat) : Int) by omega]
                  refine ⟨k - 1, (weak_of _ rfl ⟨⟨rfl, rfl⟩, ⟨rfl, rfl⟩, ⟨rfl, rfl⟩, ⟨rfl, rfl⟩, ⟨rfl, rfl⟩, ⟨rfl, rfl⟩, ⟨rfl, rfl⟩, trivial⟩), ⟨by omega, fun z hz => ?_⟩, by omega⟩
                  rw [hy] at hz
                  injection hz with hz
                  rw [← hz]
                  omega
      · intro _ hd
        have e1 : xs.take xs.length = xs := List.take_length
        rw [e1]
        repeat' (first
            | (simp only [hd, dl_len, ↓wA, ↓wC, wB, frzBE, frzBS, Nat.reduceEqDiff, Nat.reduceAdd, Nat.reduceSub, reduceIte, reduceCtorEq, Nat.reduceBEq, Nat.reduceLT, decide_true])
            | (refine execG_split (fun h => ?_) (fun h => ?_) <;> simp only [h])
            | (refine execC_split (fun h => ?_) (fun h => ?_) <;> (try simp only [h]))
            | (refine onPick_split (fun h => ?_) (fun h => ?_) <;> (try simp only [h])))
        have hsl := sortA_len (waitL xs p)
        have hwl := waitL_len xs p
        generalize hL : sortA (waitL xs p) = L at hsl
        have hLi : waitIds xs p = L.map App.i := by rw [waitIds, hL]
        refine exec_range L.length (fun i : Nat => ⟨[(6, .own 0), (7, .d (.sl false 6 (dl App.d' L))), (11, .d (.int .i64 i))], [.val (.sl true 1 (dl iD ((L.take i).map App.i)))]⟩) (fun _ => True) (weak_of _ rfl ⟨⟨rfl, rfl⟩, ⟨rfl, rfl⟩, ⟨rfl, rfl⟩, trivial⟩) trivial ?_ ?_
        · intro i hlt _ hd h0
          obtain ⟨x, hr⟩ := get_lt hlt
          have hsn : (L.take (i + 1)).map App.i = (L.take i).map App.i ++ [x.i] := by rw [take_snoc hr, List.map_append]; rfl
          have hvl : ((L.take i).map App.i).length ≤ 10 := by simp; omega
          repeat' (first
              | (simp only [dl_len, hd, h0, dl_nth, Int.toNat_natCast, hr, Option.map_some, onC_true, ↓fa_app0, app_int, ↓wA, ↓wC, wB, frzBE, frzBS, Nat.reduceEqDiff, Nat.reduceAdd, Nat.reduceSub, reduceIte, reduceCtorEq, Nat.reduceBEq, Nat.reduceLT, decide_true])
              | (with_reducible refine onI_bare ?_ ?_; focus (simp only [InR]; omega))
              | (with_reducible refine onC_i ?_ ?_; focus omega)
              | (with_reducible refine onC_i ?_ ?_; focus (simp; done))
              | (refine execG_split (fun h => ?_) (fun h => ?_) <;> simp only [h])
              | (refine execC_split (fun h => ?_) (fun h => ?_) <;> (try simp only [h]))
              | (refine onPick_split (fun h => ?_) (fun h => ?_) <;> (try simp only [h])))
          refine ⟨i + 1, ?_, by omega, by omega⟩
          rw [hsn]
          exact (weak_of _ rfl ⟨⟨rfl, rfl⟩, ⟨rfl, rfl⟩, ⟨rfl, rfl⟩, trivial⟩)
        · intro _ hd
          have e2 : L.take L.length = L := List.take_length
          rw [e2]
          repeat' (first
              | (simp only [hd, dl_len, ↓wA, ↓wC, wB, frzBE, frzBS, Nat.reduceEqDiff, Nat.reduceAdd, Nat.reduceSub, reduceIte, reduceCtorEq, Nat.reduceBEq, Nat.reduceLT, decide_true])
              | (refine execG_split (fun h => ?_) (fun h => ?_) <;> simp only [h])
              | (refine execC_split (fun h => ?_) (fun h => ?_) <;> (try simp only [h]))
              | (refine onPick_split (fun h => ?_) (fun h => ?_) <;> (try simp only [h])))
          rw [hLi]
end Go.Pe.Try
