/- Valid lists of appeals as the reference has them, walked. -/
import Derived.Test.YtbkjloohaahmdaaAp9
set_option maxRecDepth 100000
set_option maxHeartbeats 4000000
set_option linter.all false
namespace Go.Pe.Try
open Go.Proofs.Try
theorem okA_s {x : App} (h : okA x = true) : 0 ≤ x.s ∧ x.s ≤ 4 := by
  simp only [okA, Bool.and_eq_true] at h
  have := h.1.1.1.1.1.1.2
  simp only [within, Bool.and_eq_true, decide_eq_true_eq] at this
  exact this
theorem pend_le {x : App} (h : okA x = true) : pend x = decide (x.s ≤ 1) := by
  have := okA_s h
  unfold pend
  by_cases h0 : x.s = 0
  · simp [h0]
  · by_cases h1 : x.s = 1
    · simp [h1]
    · rw [decide_eq_false h0, decide_eq_false h1, decide_eq_false (by omega)]; rfl
theorem stepA_ok {xs : List App} {i : Nat} {x : App} (hr : xs[i]? = some x) (h : stepA xs i = true) : okA x = true := by
  rw [stepA_at hr] at h
  simp only [Bool.and_eq_true] at h
  exact h.1.1
theorem same_of {x y : App} (hx : okA x = true) (hy : okA y = true) : (pend x && sameA x y) = (decide (y.q = x.q) && decide (y.s ≤ 1) && decide (x.s ≤ 1)) := by
  rw [sameA, pend_le hx, pend_le hy, Bool.and_comm]
theorem step_bad {xs : List App} {i k : Nat} {x y : App} (hr : xs[i]? = some x) (hy : xs[k]? = some y) (hk : k < i) (hox : okA x = true) (hoy : okA y = true) (h : (decide (y.q = x.q) && decide (y.s ≤ 1) && decide (x.s ≤ 1)) = true) : stepA xs i = false := by
  rw [← same_of hox hoy, Bool.and_eq_true] at h
  rw [stepA_at hr]
  have : (xs.take i).any (sameA x) = true := List.any_eq_true.2 ⟨y, List.mem_of_getElem? (by rw [List.getElem?_take, if_pos hk]; exact hy), h.2⟩
  rw [this, h.1]; simp
theorem step_good {xs : List App} {i : Nat} {x : App} (hr : xs[i]? = some x) (hinv : ∀ j, j < i → stepA xs j = true) (hox : okA x = true) (hl : ltA xs i x = true) (h : ∀ k y, k < i → xs[k]? = some y → (decide (y.q = x.q) && decide (y.s ≤ 1) && decide (x.s ≤ 1)) = false) : stepA xs i = true := by
  rw [stepA_at hr, hox, hl]
  cases hp : pend x with
  | false => rfl
  | true =>
    have : (xs.take i).any (sameA x) = false := List.any_eq_false.2 fun y hy => by
      obtain ⟨k, hk⟩ := List.getElem?_of_mem hy
      have hk2 := lt_of_get hk
      rw [List.length_take] at hk2
      rw [List.getElem?_take, if_pos (by omega)] at hk
      have h1 := h k y (by omega) hk
      rw [← same_of hox (stepA_ok hk (hinv k (by omega))), hp] at h1
      simpa using h1
    rw [this]; rfl
def noSame (xs : List App) (x : App) (k : Nat) : Prop := ∀ j y, j < k → xs[j]? = some y → (decide (y.q = x.q) && decide (y.s ≤ 1) && decide (x.s ≤ 1)) = false
theorem noSame_up {xs : List App} {x z : App} {k : Nat} (h : noSame xs x k) (hz : xs[k]? = some z) (hb : (decide (z.q = x.q) && decide (z.s ≤ 1) && decide (x.s ≤ 1)) = false) : noSame xs x (k + 1) := fun j y hj hy => by
  by_cases e : j = k
  · subst e; rw [hz] at hy; injection hy with hy; rw [← hy]; exact hb
  · exact h j y (by omega) hy
theorem prevA {xs : List App} {i : Nat} {x : App} (hlt : i < xs.length) : (decide ((0 : Int) < (i : Int)) = false ∧ ltA xs i x = true) ∨ ∃ y, decide ((0 : Int) < (i : Int)) = true ∧ (0 : Int) ≤ (i : Int) - 1 ∧ xs[((i : Int) - 1).toNat]? = some y ∧ decide (x.i ≤ y.i) = !ltA xs i x := by
  cases i with
  | zero => exact .inl ⟨by decide, rfl⟩
  | succ k =>
    obtain ⟨y, hy⟩ := get_lt (show k < xs.length by omega)
    refine .inr ⟨y, decide_eq_true (by omega), by omega, by rw [show (((k + 1 : Nat) : Int) - 1).toNat = k by omega]; exact hy, ?_⟩
    simp only [ltA, hy]
    by_cases h : y.i < x.i
    · rw [decide_eq_true h, decide_eq_false (by omega)]; rfl
    · rw [decide_eq_false h, decide_eq_true (by omega)]; rfl
theorem l24Good_big (xs : List App) (hlen : xs.length ≤ 2000000) (hx : ∀ x ∈ xs, x.ok0) : Fn prog 63 [.sl false 6 (appsD xs)] (fun rs => rs = [.bool (goodA xs)]) := by
  refine Fn_ofg (ps := [[1, 0, 1, 0, 0, 1, 0, 0, 1, 0, 0]]) (fn := f63) (by exact func63) c63 r63 (n := 67) (by rfl) (rv := [.tmp 2]) (by rfl) (by simp) ?_
  unfold m63
  simp only [ghAll, ghAt]
  simp only [dl_len, ↓wA, ↓wC, wB, frzBE, frzBS, Nat.reduceEqDiff, Nat.reduceAdd, Nat.reduceSub, reduceIte, reduceCtorEq, Nat.reduceBEq, Nat.reduceLT, decide_true]
  refine exec_loop (fun i : Nat => ⟨[(0, .d (.sl false 6 (appsD xs))), (3, .d (.int .i64 i))], []⟩) (fun i => i ≤ xs.length ∧ i ≤ 11 ∧ ∀ j, j < i → stepA xs j = true) (fun i => xs.length - i) 0 (weak_of _ rfl ⟨⟨rfl, rfl⟩, ⟨rfl, rfl⟩, trivial⟩) ⟨by omega, by omega, fun j hj => by omega⟩ ?_
  rintro i ⟨hi, hi11, hinv⟩
  by_cases hlt : i < xs.length
  · have hd : decide ((i : Int) < (xs.length : Int)) = true := decide_eq_true (by omega)
    by_cases h11 : i ≤ 10
    · have hd2 : decide ((i : Int) ≤ 10) = true := decide_eq_true (by omega)
      have h0 : (0 : Int) ≤ (i : Int) := by omega
      obtain ⟨x, hr⟩ := get_lt hlt
      have hxo := hx x (List.mem_of_getElem? hr)
      have hst := stepA_at hr
      have hok := l24One_fn x hxo
      simp only [dl_len, hd, hd2, h0, dl_nth, Int.toNat_natCast, hr, Option.map_some, onC_true, ↓rd_app, oa_size, oa_isV, App.noOwn, App.unown, ↓wA, ↓wC, wB, frzBE, frzBS, Nat.reduceEqDiff, Nat.reduceAdd, Nat.reduceSub, reduceIte, reduceCtorEq, Nat.reduceBEq, Nat.reduceLT, decide_true]
      refine exec_gh1 (frzB 0 rfl) ?_
      simp only [App.unown]
      rcases prevA (x := x) hlt with ⟨hg, hl⟩ | ⟨y, hg, h1, hy', hl⟩
      case' inl => repeat' (first
     | (simp only [dl_len, dl_nth, App.noOwn, App.unown, onC_true, hg, ↓rd_app, ↓wA, ↓wC, wB, frzBE, frzBS, Nat.reduceEqDiff, Nat.reduceAdd, Nat.reduceSub, reduceIte, reduceCtorEq, Nat.reduceBEq, Nat.reduceLT, decide_true])
     | (refine call_det (hok) rfl rfl ?_)
     | (refine callP_det (hok) rfl rfl ?_)
     | (refine execG_split (fun h => ?_) (fun h => ?_) <;> simp only [h])
     | (refine execC_split (fun h => ?_) (fun h => ?_) <;> (try simp only [h]))
     | (refine onPick_split (fun h => ?_) (fun h => ?_) <;> (try simp only [h])))
      case' inr => repeat' (first
     | (simp only [dl_len, dl_nth, App.noOwn, App.unown, onC_true, hg, h1, hy', Option.map_some, ↓fa_app0, ↓rd_app, ↓wA, ↓wC, wB, frzBE, frzBS, Nat.reduceEqDiff, Nat.reduceAdd, Nat.reduceSub, reduceIte, reduceCtorEq, Nat.reduceBEq, Nat.reduceLT, decide_true])
     | (refine call_det (hok) rfl rfl ?_)
     | (refine callP_det (hok) rfl rfl ?_)
     | (refine onI_bare (by simp only [InR]; omega) ?_)
     | (refine execG_split (fun h => ?_) (fun h => ?_) <;> simp only [h])
     | (refine execC_split (fun h => ?_) (fun h => ?_) <;> (try simp only [h]))
     | (refine onPick_split (fun h => ?_) (fun h => ?_) <;> (try simp only [h])))
      any_goals (rw [goodA_bad hlt (by clear hok; simp_all)]; done)
      all_goals
        have hox : okA x = true := by clear hok; simp_all
        have hlx : ltA xs i x = true := by clear hok; simp_all
        refine exec_range i (fun k : Nat => ⟨[(0, .d (.sl false 6 (appsD xs))), (3, .d (.int .i64 i)), (4, .d (.ptr x.d')), (5, .d (.int .i64 k))], []⟩) (noSame xs x) (weak_of _ rfl ⟨⟨rfl, rfl⟩, ⟨rfl, rfl⟩, ⟨rfl, rfl⟩, ⟨rfl, rfl⟩, trivial⟩) (fun j y hj => by omega) ?_ ?_
        · intro k hki hk hdk hk0
          obtain ⟨z, hz⟩ := get_lt (show k < xs.length by omega)
          have hoz := stepA_ok hz (hinv k hki)
          have hb := step_bad hr hz hki hox hoz
          repeat' (first
              | (simp only [dl_len, dl_nth, hdk, hk0, Int.toNat_natCast, hz, Option.map_some, onC_true, ↓fa_app1, ↓fa_app5, ↓wA, ↓wC, wB, frzBE, frzBS, Nat.reduceEqDiff, Nat.reduceAdd, Nat.reduceSub, reduceIte, reduceCtorEq, Nat.reduceBEq, Nat.reduceLT, decide_true])
              | (refine onI_bare (by simp only [InR]; omega) ?_)
              | (refine execG_split (fun h => ?_) (fun h => ?_) <;> simp only [h])
              | (refine execC_split (fun h => ?_) (fun h => ?_) <;> (try simp only [h]))
              | (refine onPick_split (fun h => ?_) (fun h => ?_) <;> (try simp only [h])))
          all_goals first
            | (rw [goodA_bad hlt (hb (by clear hok hb; simp_all))]; done)
            | (refine next_range (weak_of _ rfl ⟨⟨rfl, rfl⟩, ⟨rfl, rfl⟩, ⟨rfl, rfl⟩, ⟨rfl, rfl⟩, trivial⟩) hki (noSame_up hk hz ?_); clear hok hb hk; simp_all <;> (intros; omega))
        · intro hk hdk
          have hgo := step_good hr hinv hox hlx hk
          repeat' (first
              | (simp only [hdk, ↓wA, ↓wC, wB, frzBE, frzBS, Nat.reduceEqDiff, Nat.reduceAdd, Nat.reduceSub, reduceIte, reduceCtorEq, Nat.reduceBEq, Nat.reduceLT, decide_true])
              | (refine onI_bare (by simp only [InR]; omega) ?_)
              | (refine execG_split (fun h => ?_) (fun h => ?_) <;> simp only [h])
              | (refine execC_split (fun h => ?_) (fun h => ?_) <;> (try simp only [h]))
              | (refine onPick_split (fun h => ?_) (fun h => ?_) <;> (try simp only [h])))
          all_goals exact ⟨i + 1, (weak_of _ rfl ⟨⟨rfl, rfl⟩, ⟨rfl, rfl⟩, trivial⟩), ⟨by omega, by omega, all_upto hinv hgo⟩, by omega⟩
    · have hd2 : decide ((i : Int) ≤ 10) = false := decide_eq_false (by omega)
      have hf : decide ((xs.length : Int) ≤ 10) = false := decide_eq_false (by omega)
      simp only [hd, hd2, dl_len, ↓wA, ↓wC, wB, frzBE, frzBS, Nat.reduceEqDiff, Nat.reduceAdd, Nat.reduceSub, reduceIte, reduceCtorEq, Nat.reduceBEq, Nat.reduceLT, decide_true]
      rw [goodA, hf]; rfl
  · have hd : decide ((i : Int) < (xs.length : Int)) = false := decide_eq_false (by omega)
    have e : i = xs.length := by omega
    simp only [hd, dl_len, ↓wA, ↓wC, wB, frzBE, frzBS, Nat.reduceEqDiff, Nat.reduceAdd, Nat.reduceSub, reduceIte, reduceCtorEq, Nat.reduceBEq, Nat.reduceLT, decide_true]
    rw [goodA_all (fun j hj => hinv j (by omega))]
theorem l24Good_fn (xs : List App) (hlen : xs.length ≤ 1048576) (hx : ∀ x ∈ xs, x.ok0) : Fn prog 63 [.sl false 6 (appsD xs)] (fun rs => rs = [.bool (goodA xs)]) := l24Good_big xs (by omega) hx
end Go.Pe.Try
