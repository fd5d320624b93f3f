/- Elements deleted from an own list of numbers; the parties that were not heard, walked. -/
import Derived.Test.YtbkjloohaahmdaaAp15
set_option maxRecDepth 100000
set_option maxHeartbeats 4000000
set_option linter.all false
namespace Go.Pe.Try
open Go.Proofs.Try
theorem cut_clr {α : Type} {f : α → D} {z : D} (xs : List α) (lo : Nat) (h : lo ≤ xs.length) : (clrD lo z (dl f xs)).takeD lo = dl f (xs.take lo) := by
  unfold clrD dl
  rw [takeD_ofL, app_ofL, takeD_ofL, List.take_append_of_le_length (by simp; omega), List.take_take, Nat.min_self, List.map_take]
theorem clr_len {α : Type} {f : α → D} {z : D} (xs : List α) (lo : Nat) (h : lo ≤ xs.length) : (clrD lo z (dl f xs)).len = xs.length := by
  unfold clrD dl
  rw [takeD_ofL, app_ofL, len_ofL, len_ofL]
  simp
  omega
/-- what is kept. -/
def kept {α : Type} (p : α → Bool) (v : List α) : List α := v.filter fun n => !p n
theorem kept_take {α : Type} {p : α → Bool} {v : List α} {j : Nat} {r : α} (hr : v[j]? = some r) : kept p (v.take (j + 1)) = kept p (v.take j) ++ (if p r = true then [] else [r]) := by
  unfold kept
  rw [take_snoc hr, List.filter_append]
  cases h : p r <;> simp [h]
theorem kept_lt {α : Type} {p : α → Bool} {v : List α} {i : Nat} {r : α} (hr : v[i]? = some r) (hp : p r = true) : ∀ j, i < j → j ≤ v.length → (kept p (v.take j)).length < j := by
  intro j hij hj
  have hsp : v.take j = v.take i ++ (r :: (v.take j).drop (i + 1)) := by
    have hi : (v.take j)[i]? = some r := by rw [List.getElem?_take, if_pos hij]; exact hr
    have h1 := lt_of_get hi
    have h2 : (v.take j)[i] = r := by rw [List.getElem?_eq_getElem h1] at hi; injection hi
    conv => lhs; rw [← List.take_append_drop i (v.take j)]
    rw [List.take_take, Nat.min_eq_left (by omega), List.drop_eq_getElem_cons h1, h2]
  have hlen := congrArg List.length hsp
  rw [hsp]
  unfold kept
  rw [List.filter_append, List.filter_cons, hp]
  simp only [List.length_append, List.length_cons, List.length_take, List.length_drop, Bool.not_true, Bool.false_eq_true, if_false] at hlen ⊢
  have a1 := List.length_filter_le (fun n => !p n) (v.take i)
  have a2 := List.length_filter_le (fun n => !p n) ((v.take j).drop (i + 1))
  simp only [List.length_take, List.length_drop] at a1 a2
  omega
theorem kept_none {α : Type} {p : α → Bool} {v : List α} (h : idxOf p v = -1) : kept p v = v := by
  unfold kept
  rw [List.filter_eq_self]
  intro x hx
  cases hp : p x with
  | false => rfl
  | true =>
    have h2 := idxOf_any (p := p) (xs := v)
    rw [List.any_eq_true.2 ⟨x, hx, hp⟩, h] at h2
    cases h2
theorem kept_at {α : Type} {p : α → Bool} {v : List α} {i : Nat} (h : idxOf p v = (i : Int)) : kept p (v.take i) = v.take i ∧ kept p (v.take (i + 1)) = v.take i ∧ i < v.length ∧ ∃ r, v[i]? = some r ∧ p r = true := by
  cases e : v.findIdx? p with
  | none => simp [idxOf, e] at h
  | some k =>
    have hk : (k : Int) = (i : Int) := by simpa [idxOf, e] using h
    have hk : k = i := by omega
    subst hk
    rw [List.findIdx?_eq_some_iff_getElem] at e
    obtain ⟨hi, hp, hn⟩ := e
    have h1 : kept p (v.take k) = v.take k := by
      unfold kept
      rw [List.filter_eq_self]
      intro x hx
      obtain ⟨j, hj⟩ := List.getElem?_of_mem hx
      rw [List.getElem?_take] at hj
      split at hj
      · rename_i hjk
        have h3 := hn j hjk
        have h4 : v[j] = x := by rw [List.getElem?_eq_getElem (by omega)] at hj; injection hj
        rw [h4] at h3
        simpa using h3
      · cases hj
    refine ⟨h1, ?_, hi, v[k], List.getElem?_eq_getElem hi, hp⟩
    rw [kept_take (List.getElem?_eq_getElem hi), h1, if_pos hp, List.append_nil]
theorem deleteFunc_fn (p : Int → Bool) (g : Nat) (c : D) (v : List Int) (hc : c.caps = true) (he : enterOK prog.P g = true) (hlen : v.length ≤ 1048576) (hp : ∀ x ∈ v, Fn prog g (iD x :: c.list) (fun rs => rs = [.bool (p x)])) :
    FnM prog 67 false (.sl true 1 (dl iD v)) [.clo g c] (fun x' rs => (∃ u, x' = .lnk 0 u) ∧ rs = [.sl true 1 (dl iD (kept p v))]) := by
  have hI := indexFuncI_fn p g c v hc he hlen hp
  have hI' : Fn prog 121 [.sl false 1 (dl iD v).unown, .clo g c] (fun rs => rs = [.int .i64 (idxOf p v)]) := by rw [ints_unown]; exact hI
  by_cases h0 : 0 ≤ idxOf p v
  · obtain ⟨i0, r0, hi, hr0, hp0⟩ := idxOf_ge h0
    rw [hi] at hI'
    obtain ⟨k1, k2, hil, _⟩ := kept_at hi
    have hn : decide ((i0 : Int) = -1) = false := decide_eq_false (by omega)
    have hcnt : (kept p (v.take (i0 + 1))).length = i0 := by rw [k2]; simp; omega
    refine FnM_of' (fn := f67) (by exact func67) c67 r67 (n := 42) (by rfl) (rv := [.tmp 4]) (by rfl) (by decide) (by simp) ?_
    unfold m67
    repeat' (first
        | (simp only [hn, ↓wA, ↓wC, wB, frzBE, frzBS, Nat.reduceEqDiff, Nat.reduceAdd, Nat.reduceSub, reduceIte, reduceCtorEq, Nat.reduceBEq, Nat.reduceLT, decide_true])
        | (refine call_det (hI') rfl rfl ?_)
        | (refine callP_det (hI') rfl rfl ?_)
        | (with_reducible refine onI_bare ?_ ?_; focus (simp only [InR]; omega))
        | (refine execG_split (fun h => ?_) (fun h => ?_) <;> simp only [h])
        | (refine execC_split (fun h => ?_) (fun h => ?_) <;> (try simp only [h]))
        | (refine onPick_split (fun h => ?_) (fun h => ?_) <;> (try simp only [h])))
    refine exec_loop (fun x : Nat × List Int => ⟨[(0, .own 0), (1, .d (.clo g c)), (5, .d (.int .i64 (kept p (v.take x.1)).length)), (6, .d (.int .i64 x.1))], [.val (.sl true 1 (dl iD x.2))]⟩)
      (fun x => i0 < x.1 ∧ x.1 ≤ v.length ∧ x.2.length = v.length ∧ x.2.take (kept p (v.take x.1)).length = kept p (v.take x.1) ∧ x.2.drop x.1 = v.drop x.1) (fun x => v.length - x.1) (i0 + 1, v)
      (weak_of [] rfl ⟨⟨rfl, rfl⟩, ⟨rfl, rfl⟩, ⟨by rw [hcnt]; rfl, rfl⟩, ⟨rfl, rfl⟩, trivial⟩) ⟨by omega, by omega, rfl, by rw [hcnt, k2], rfl⟩ ?_
    rintro ⟨j, L⟩ ⟨q1, q2, q3, q4, q5⟩
    simp only at q1 q2 q3 q4 q5 ⊢
    have hlt0 := kept_lt hr0 hp0 j q1 q2
    generalize hN : (kept p (v.take j)).length = N at *
    by_cases hlt : j < v.length
    · obtain ⟨r, hr⟩ := get_lt hlt
      have hrL : L[j]? = some r := by
        have := congrArg (fun l : List Int => l[0]?) q5
        simp only [List.getElem?_drop, Nat.add_zero] at this
        rw [this]; exact hr
      obtain ⟨u, hu⟩ := get_lt (show N < L.length by omega)
      have hd : decide ((j : Int) < (v.length : Int)) = true := decide_eq_true (by omega)
      have hcl := hp r (List.mem_of_getElem? hr)
      have hj0 : (0 : Int) ≤ (j : Int) := by omega
      have hN0 : (0 : Int) ≤ (N : Int) := by omega
      have hk := kept_take (p := p) hr
      cases hpr : p r with
      | false =>
        rw [hpr] at hcl hk
        simp only [Bool.false_eq_true, if_false] at hk
        have hs : (dl iD L).setN N (.int .i64 r) = dl iD (L.set N r) := dl_setN (f := iD) L N r
        repeat' (first
            | (simp only [dl_len, q3, hd, dl_nth, Int.toNat_natCast, hrL, hu, Option.map_some, hj0, hN0, onC_true, size_int, hs, ↓rd_iD, ↓wA, ↓wC, wB, frzBE, frzBS, Nat.reduceEqDiff, Nat.reduceAdd, Nat.reduceSub, reduceIte, reduceCtorEq, Nat.reduceBEq, Nat.reduceLT, decide_true])
            | (refine callV_det (ds := [iD r]) hcl he hc (by simp [argsD, argD, valOf, iD]) rfl ?_)
            | (refine callW_det (ds := [iD r]) hcl he hc (by simp [argsD, argD, valOf, iD]) rfl ?_)
            | (with_reducible refine onI_bare ?_ ?_; focus (simp only [InR]; omega))
            | (refine execG_split (fun h => ?_) (fun h => ?_) <;> simp only [h])
            | (refine execC_split (fun h => ?_) (fun h => ?_) <;> (try simp only [h]))
            | (refine onPick_split (fun h => ?_) (fun h => ?_) <;> (try simp only [h])))
        refine ⟨(j + 1, L.set N r), weak_of [] rfl ⟨⟨rfl, rfl⟩, ⟨rfl, rfl⟩, ⟨?_, rfl⟩, ⟨rfl, rfl⟩, trivial⟩, ⟨by omega, by omega, by simp [q3], ?_, ?_⟩, by omega⟩
        · show SV.d (.int .i64 ((N : Int) + 1)) = SV.d (.int .i64 (kept p (v.take (j + 1))).length)
          rw [hk, List.length_append, hN]
          exact congrArg (fun n => SV.d (.int .i64 n)) (by simp)
        · show (L.set N r).take (kept p (v.take (j + 1))).length = kept p (v.take (j + 1))
          have h3 : (L.set N r)[N]? = some r := by rw [List.getElem?_set]; simp; omega
          rw [hk, List.length_append, hN, List.length_singleton, take_snoc h3, List.take_set_of_le (Nat.le_refl _), q4]
        · show (L.set N r).drop (j + 1) = v.drop (j + 1)
          rw [List.drop_set_of_lt (by omega)]
          have := congrArg (List.drop 1) q5
          simpa [List.drop_drop] using this
      | true =>
        rw [hpr] at hcl hk
        simp only [if_true, List.append_nil] at hk
        repeat' (first
            | (simp only [dl_len, q3, hd, dl_nth, Int.toNat_natCast, hrL, hu, Option.map_some, hj0, hN0, onC_true, size_int, ↓rd_iD, ↓wA, ↓wC, wB, frzBE, frzBS, Nat.reduceEqDiff, Nat.reduceAdd, Nat.reduceSub, reduceIte, reduceCtorEq, Nat.reduceBEq, Nat.reduceLT, decide_true])
            | (refine callV_det (ds := [iD r]) hcl he hc (by simp [argsD, argD, valOf, iD]) rfl ?_)
            | (refine callW_det (ds := [iD r]) hcl he hc (by simp [argsD, argD, valOf, iD]) rfl ?_)
            | (with_reducible refine onI_bare ?_ ?_; focus (simp only [InR]; omega))
            | (refine execG_split (fun h => ?_) (fun h => ?_) <;> simp only [h])
            | (refine execC_split (fun h => ?_) (fun h => ?_) <;> (try simp only [h]))
            | (refine onPick_split (fun h => ?_) (fun h => ?_) <;> (try simp only [h])))
        refine ⟨(j + 1, L), weak_of [] rfl ⟨⟨rfl, rfl⟩, ⟨rfl, rfl⟩, ⟨?_, rfl⟩, ⟨rfl, rfl⟩, trivial⟩, ⟨by omega, by omega, q3, ?_, ?_⟩, by omega⟩
        · show SV.d (.int .i64 (N : Int)) = SV.d (.int .i64 (kept p (v.take (j + 1))).length)
          rw [hk, hN]
        · show L.take (kept p (v.take (j + 1))).length = kept p (v.take (j + 1))
          rw [hk, hN]; exact q4
        · show L.drop (j + 1) = v.drop (j + 1)
          have := congrArg (List.drop 1) q5
          simpa [List.drop_drop] using this
    · have e : j = v.length := by omega
      subst e
      rw [List.take_length] at q4 hN
      have hd : decide ((v.length : Int) < (v.length : Int)) = false := decide_eq_false (by omega)
      have hNl : N ≤ L.length := by omega
      repeat' (first
          | (simp only [dl_len, q3, hd, Int.toNat_natCast, cut_clr L N hNl, clr_len L N hNl, ↓wA, ↓wC, wB, frzBE, frzBS, Nat.reduceEqDiff, Nat.reduceAdd, Nat.reduceSub, reduceIte, reduceCtorEq, Nat.reduceBEq, Nat.reduceLT, decide_true])
          | (with_reducible refine onC_i ?_ ?_; focus omega)
          | (refine onV_i fun u => ?_)
          | (refine execG_split (fun h => ?_) (fun h => ?_) <;> simp only [h])
          | (refine execC_split (fun h => ?_) (fun h => ?_) <;> (try simp only [h]))
          | (refine onPick_split (fun h => ?_) (fun h => ?_) <;> (try simp only [h])))
      exact ⟨⟨u, rfl⟩, by rw [q4]⟩
  · have hm := idxOf_lt h0
    rw [hm] at hI'
    rw [kept_none hm]
    have hn : decide ((-1 : Int) = -1) = true := rfl
    refine FnM_ofg (ps := [[1, 1, 0, 1, 0, 1]]) (fn := f67) (by exact func67) c67 r67 (n := 42) (by rfl) (rv := [.tmp 4]) (by rfl) (by decide) (by simp) ?_
    unfold m67
    simp only [ghAll, ghAt]
    repeat' (first
        | (simp only [hn, ↓wA, ↓wC, wB, frzBE, frzBS, Nat.reduceEqDiff, Nat.reduceAdd, Nat.reduceSub, reduceIte, reduceCtorEq, Nat.reduceBEq, Nat.reduceLT, decide_true])
        | (refine call_det (hI') rfl rfl ?_)
        | (refine callP_det (hI') rfl rfl ?_)
        | (refine execG_split (fun h => ?_) (fun h => ?_) <;> simp only [h])
        | (refine execC_split (fun h => ?_) (fun h => ?_) <;> (try simp only [h]))
        | (refine onPick_split (fun h => ?_) (fun h => ?_) <;> (try simp only [h])))
    refine exec_gh _ (mvOwn 4 0 rfl rfl) fun u => ?_
    repeat' (first
        | (simp only [hn, ↓wA, ↓wC, wB, frzBE, frzBS, Nat.reduceEqDiff, Nat.reduceAdd, Nat.reduceSub, reduceIte, reduceCtorEq, Nat.reduceBEq, Nat.reduceLT, decide_true])
        | (refine execG_split (fun h => ?_) (fun h => ?_) <;> simp only [h])
        | (refine execC_split (fun h => ?_) (fun h => ?_) <;> (try simp only [h]))
        | (refine onPick_split (fun h => ?_) (fun h => ?_) <;> (try simp only [h])))
    exact ⟨u, rfl⟩
end Go.Pe.Try
