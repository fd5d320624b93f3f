/- Valid lists of appeals, walked. -/
import Derived.Test.YtbkjloohaahmdaaAp7
set_option maxRecDepth 100000
set_option maxHeartbeats 4000000
set_option linter.all false
namespace Go.Pe.Try
open Go.Proofs.Try
theorem okA_alt (x : App) : okA x = (within x.i 1 999 && within x.q 1 999 && within x.d 0 20000 && !decide (6 < (x.a.length : Int)) && (x.a.all (fun n => within n 1 50) && rises x.a) && (x.h.all (fun n => within n 1 50) && rises x.h) && within x.s 0 4 && x.h.all (fun n => x.a.contains n) && ((decide (x.s = 0) || decide (x.s = 4)) == decide ((x.h.length : Int) < (x.a.length : Int)))) := by
  have h : (x.a.all (fun n => within n 1 50) && x.h.all (fun n => x.a.contains n)) = (x.a.all (fun n => within n 1 50) && x.h.all (fun n => within n 1 50) && x.h.all (fun n => x.a.contains n)) := by
    cases h1 : x.a.all (fun n => within n 1 50) with
    | false => rfl
    | true =>
      cases h2 : x.h.all (fun n => x.a.contains n) with
      | false => simp
      | true =>
        have : x.h.all (fun n => within n 1 50) = true := List.all_eq_true.2 fun n hn => List.all_eq_true.1 h1 n (List.contains_iff_mem.1 (List.all_eq_true.1 h2 n hn))
        rw [this]; rfl
  have e : (decide ((x.h.length : Int) < (x.a.length : Int)) == (decide (x.s = 0) || decide (x.s = 4))) = ((decide (x.s = 0) || decide (x.s = 4)) == decide ((x.h.length : Int) < (x.a.length : Int))) := Bool.beq_comm
  unfold okA
  rw [e]
  generalize ((decide (x.s = 0) || decide (x.s = 4)) == decide ((x.h.length : Int) < (x.a.length : Int))) = E
  generalize x.a.all (fun n => within n 1 50) = A at h ⊢
  generalize x.h.all (fun n => x.a.contains n) = H at h ⊢
  generalize x.h.all (fun n => within n 1 50) = B at h ⊢
  generalize within x.i 1 999 = b1
  generalize within x.q 1 999 = b2
  generalize within x.d 0 20000 = b3
  generalize within x.s 0 4 = b4
  generalize decide (6 < (x.a.length : Int)) = b5
  generalize rises x.a = b6
  generalize rises x.h = b7
  revert h
  revert A H B b1 b2 b3 b4 b5 b6 b7 E
  decide
theorem l24One_fn (x : App) (hx : x.ok0) : Fn prog 116 [x.d'] (fun rs => rs = [.bool (okA x)]) := by
  have ha := hx.1
  have hh := hx.2
  rw [okA_alt]
  have r1 := l1Rising_fn x.a 1 50 ha
  have r2 := l1Rising_fn x.h 1 50 hh
  generalize (x.a.all (fun n => within n 1 50) && rises x.a) = A at r1 ⊢
  generalize (x.h.all (fun n => within n 1 50) && rises x.h) = B at r2 ⊢
  refine Fn_ofg (ps := [[1, 0, 0]]) (fn := f116) (by exact func116) c116 r116 (n := 76) (by rfl) (rv := [.tmp 2]) (by rfl) (by simp) ?_
  unfold m116
  simp only [ghAll, ghAt]
  simp only [App.d', ↓wA, ↓wC, wB, frzBE, frzBS, Nat.reduceEqDiff, Nat.reduceAdd, Nat.reduceSub, reduceIte, reduceCtorEq, Nat.reduceBEq, Nat.reduceLT, decide_true]
  refine exec_gh1 (frzB 0 rfl) ?_
  simp only [ints_noOwn, ints_unown, ↓wA, ↓wC, wB, frzBE, frzBS, Nat.reduceEqDiff, Nat.reduceAdd, Nat.reduceSub, reduceIte, reduceCtorEq, Nat.reduceBEq, Nat.reduceLT, decide_true]
  repeat' (first
      | (simp only [ints_noOwn, ints_unown, onC_true, dl_len, ↓wA, ↓wC, wB, frzBE, frzBS, Nat.reduceEqDiff, Nat.reduceAdd, Nat.reduceSub, reduceIte, reduceCtorEq, Nat.reduceBEq, Nat.reduceLT, decide_true])
      | (refine call_det (l1In_fn _ _ _) rfl rfl ?_)
      | (refine callP_det (l1In_fn _ _ _) rfl rfl ?_)
      | (refine call_det (l2Day_fn _) rfl rfl ?_)
      | (refine callP_det (l2Day_fn _) rfl rfl ?_)
      | (refine call_det (r1) rfl rfl ?_)
      | (refine callP_det (r1) rfl rfl ?_)
      | (refine call_det (r2) rfl rfl ?_)
      | (refine callP_det (r2) rfl rfl ?_)
      | (refine execG_split (fun h => ?_) (fun h => ?_) <;> simp only [h])
      | (refine execC_split (fun h => ?_) (fun h => ?_) <;> (try simp only [h]))
      | (refine onPick_split (fun h => ?_) (fun h => ?_) <;> (try simp only [h])))
  any_goals (clear r1 r2; simp_all; done)
  refine exec_range x.h.length (fun i : Nat => ⟨[(1, .d (.ptr x.d')), (3, .d (.int .i64 i))], []⟩) (fun i => ∀ j r, j < i → x.h[j]? = some r → x.a.contains r = true) (weak_of _ rfl ⟨⟨rfl, rfl⟩, ⟨rfl, rfl⟩, trivial⟩) (fun j r hj => by omega) ?_ ?_
  · intro i hlt hinv hd h0
    obtain ⟨r, hr⟩ := get_lt hlt
    have hc := l1Has_fn x.a r ha
    cases hw : x.a.contains r with
    | false =>
      have hres : x.h.all (fun n => x.a.contains n) = false := List.all_eq_false.2 ⟨r, List.mem_of_getElem? hr, by rw [hw]; simp⟩
      rw [hw] at hc
      simp only [App.d']
      repeat' (first
          | (simp only [ints_noOwn, dl_len, dl_nth, hd, h0, Int.toNat_natCast, hr, Option.map_some, ↓rd_iD, onC_true, ↓wA, ↓wC, wB, frzBE, frzBS, Nat.reduceEqDiff, Nat.reduceAdd, Nat.reduceSub, reduceIte, reduceCtorEq, Nat.reduceBEq, Nat.reduceLT, decide_true])
          | (refine call_det (hc) rfl rfl ?_)
          | (refine callP_det (hc) rfl rfl ?_)
          | (refine execG_split (fun h => ?_) (fun h => ?_) <;> simp only [h])
          | (refine execC_split (fun h => ?_) (fun h => ?_) <;> (try simp only [h]))
          | (refine onPick_split (fun h => ?_) (fun h => ?_) <;> (try simp only [h])))
      all_goals (rw [hres]; simp)
    | true =>
      rw [hw] at hc
      simp only [App.d']
      repeat' (first
          | (simp only [ints_noOwn, dl_len, dl_nth, hd, h0, Int.toNat_natCast, hr, Option.map_some, ↓rd_iD, onC_true, ↓wA, ↓wC, wB, frzBE, frzBS, Nat.reduceEqDiff, Nat.reduceAdd, Nat.reduceSub, reduceIte, reduceCtorEq, Nat.reduceBEq, Nat.reduceLT, decide_true])
          | (refine call_det (hc) rfl rfl ?_)
          | (refine callP_det (hc) rfl rfl ?_)
          | (refine onI_bare (by simp only [InR]; omega) ?_)
          | (refine execG_split (fun h => ?_) (fun h => ?_) <;> simp only [h])
          | (refine execC_split (fun h => ?_) (fun h => ?_) <;> (try simp only [h]))
          | (refine onPick_split (fun h => ?_) (fun h => ?_) <;> (try simp only [h])))
      all_goals refine next_range (weak_of _ rfl ⟨⟨rfl, rfl⟩, ⟨rfl, rfl⟩, trivial⟩) hlt fun j s hj hs => ?_
      by_cases e : j = i
      · subst e; rw [hr] at hs; injection hs with hs; rw [← hs]; exact hw
      · exact hinv j s (by omega) hs
  · intro hinv hd
    have hres : x.h.all (fun n => x.a.contains n) = true := List.all_eq_true.2 fun n hn => by
      obtain ⟨j, hj⟩ := List.getElem?_of_mem hn
      exact hinv j n (lt_of_get hj) hj
    rw [hres]
    clear r1 r2
    simp only [App.d']
    repeat' (first
        | (simp only [ints_noOwn, dl_len, hd, ↓wA, ↓wC, wB, frzBE, frzBS, Nat.reduceEqDiff, Nat.reduceAdd, Nat.reduceSub, reduceIte, reduceCtorEq, Nat.reduceBEq, Nat.reduceLT, decide_true])
        | (refine execG_split (fun h => ?_) (fun h => ?_) <;> simp only [h])
        | (refine execC_split (fun h => ?_) (fun h => ?_) <;> (try simp only [h]))
        | (refine onPick_split (fun h => ?_) (fun h => ?_) <;> (try simp only [h])))
    all_goals simp_all
end Go.Pe.Try
