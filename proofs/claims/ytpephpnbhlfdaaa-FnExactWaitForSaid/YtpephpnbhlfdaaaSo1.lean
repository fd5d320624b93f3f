/- Sorting of a few numbers, walked. -/
import Derived.Test.YtpephpnbhlfdaaaAp18
set_option maxRecDepth 100000
set_option maxHeartbeats 4000000
set_option linter.all false
namespace Go.Pe.Try
open Go.Proofs.Try
theorem isNaN_fn (a : Int) : Fn prog 53 [.int .i64 a] (fun rs => rs = [.bool false]) := by
  refine Fn_of' (fn := f53) (by exact func53) c53 r53 (n := 6) (by rfl) (rv := [.tmp 2]) (by rfl) (by simp) ?_
  unfold m53
  simp only [↓wA, ↓wC, wB, frzBE, frzBS, Nat.reduceEqDiff, Nat.reduceAdd, Nat.reduceSub, reduceIte, reduceCtorEq, Nat.reduceBEq, Nat.reduceLT, decide_true]
theorem cmpLess_fn (a b : Int) : Fn prog 68 [.int .i64 a, .int .i64 b] (fun rs => rs = [.bool (decide (a < b))]) := by
  have h1 := isNaN_fn a
  have h2 := isNaN_fn b
  refine Fn_of' (fn := f68) (by exact func68) c68 r68 (n := 17) (by rfl) (rv := [.tmp 4]) (by rfl) (by simp) ?_
  unfold m68
  repeat' (first
      | (simp only [↓wA, ↓wC, wB, frzBE, frzBS, Nat.reduceEqDiff, Nat.reduceAdd, Nat.reduceSub, reduceIte, reduceCtorEq, Nat.reduceBEq, Nat.reduceLT, decide_true])
      | (refine call_det (h1) rfl rfl ?_)
      | (refine callP_det (h1) rfl rfl ?_)
      | (refine call_det (h2) rfl rfl ?_)
      | (refine callP_det (h2) rfl rfl ?_)
      | (refine execG_split (fun h => ?_) (fun h => ?_) <;> simp only [h])
      | (refine execC_split (fun h => ?_) (fun h => ?_) <;> (try simp only [h]))
      | (refine onPick_split (fun h => ?_) (fun h => ?_) <;> (try simp only [h])))
def lenTab (n : Nat) : Int := [0, 1, 2, 2, 3, 3, 3, 3].getD n 0
theorem len64_fn (n : Nat) (h : n ≤ 7) : Fn prog 72 [.int .u64 n] (fun rs => rs = [.int .i64 (lenTab n)]) := by
  have h1 : decide ((4294967296 : Int) ≤ (n : Int)) = false := decide_eq_false (by omega)
  have h2 : decide ((65536 : Int) ≤ (n : Int)) = false := decide_eq_false (by omega)
  have h3 : decide ((256 : Int) ≤ (n : Int)) = false := decide_eq_false (by omega)
  have h8 : n = 0 ∨ n = 1 ∨ n = 2 ∨ n = 3 ∨ n = 4 ∨ n = 5 ∨ n = 6 ∨ n = 7 := by omega
  refine Fn_of' (fn := f72) (by exact func72) c72 r72 (n := 25) (by rfl) (rv := [.tmp 2]) (by rfl) (by simp) ?_
  unfold m72
  repeat' (first
      | (simp only [onC_true, h1, h2, h3, ↓wA, ↓wC, wB, frzBE, frzBS, Nat.reduceEqDiff, Nat.reduceAdd, Nat.reduceSub, reduceIte, reduceCtorEq, Nat.reduceBEq, Nat.reduceLT, decide_true])
      | (with_reducible refine onI_bare ?_ ?_; focus (simp only [InR]; omega))
      | (refine execG_split (fun h => ?_) (fun h => ?_) <;> simp only [h])
      | (refine execC_split (fun h => ?_) (fun h => ?_) <;> (try simp only [h]))
      | (refine onPick_split (fun h => ?_) (fun h => ?_) <;> (try simp only [h])))
  rcases h8 with rfl | rfl | rfl | rfl | rfl | rfl | rfl | rfl
  all_goals
    refine onC_i (by decide) ?_
    refine ⟨_, rfl, ?_⟩
    refine onI_bare (by simp only [InR]; decide) ?_
    simp only [↓wA, ↓wC, wB, frzBE, frzBS, Nat.reduceEqDiff, Nat.reduceAdd, Nat.reduceSub, reduceIte, reduceCtorEq, Nat.reduceBEq, Nat.reduceLT, decide_true]
    refine onI_bare (by simp only [InR]; decide) ?_
    simp only [↓wA, ↓wC, wB, frzBE, frzBS, Nat.reduceEqDiff, Nat.reduceAdd, Nat.reduceSub, reduceIte, reduceCtorEq, Nat.reduceBEq, Nat.reduceLT, decide_true]
    rfl
def pos (p : Int) : List Int → Nat
  | [] => 0
  | a :: t => if a < p then pos p t + 1 else 0
def putI (p : Int) (v : List Int) : List Int := v.take (pos p v) ++ p :: v.drop (pos p v)
theorem pos_eq {p : Int} : ∀ (v : List Int) (j : Nat), j ≤ v.length → (∀ m x, m < j → v[m]? = some x → x < p) → (∀ x, v[j]? = some x → ¬ x < p) → pos p v = j
  | [], j, h, _, _ => by
    simp at h
    subst h
    rfl
  | a :: t, 0, _, _, h3 => by
    rw [pos, if_neg (h3 a rfl)]
  | a :: t, j + 1, h, h2, h3 => by
    rw [pos, if_pos (h2 0 a (by omega) rfl), pos_eq t j (by simpa using h) (fun m x hm hx => h2 (m + 1) x (by omega) (by simpa using hx)) (fun x hx => h3 x (by simpa using hx))]
def risen (v : List Int) : Prop := ∀ j a b, v[j]? = some a → v[j + 1]? = some b → a < b
theorem risen_lt {v : List Int} (h : risen v) : ∀ (k m : Nat) (a b : Int), m < k → v[m]? = some a → v[k]? = some b → a < b
  | 0, m, a, b, hm, _, _ => by omega
  | k + 1, m, a, b, hm, ha, hb => by
    by_cases e : m = k
    · subst e; exact h m a b ha hb
    · obtain ⟨c, hc⟩ := get_lt (show k < v.length by have := lt_of_get hb; omega)
      have h1 := risen_lt h k m a c (by omega) ha hc
      have h2 := h k c b hc hb
      omega
def mv (p : Int) (v : List Int) (j : Nat) : List Int := v.take j ++ p :: v.drop j
theorem mv_len {p : Int} {v : List Int} {j : Nat} (h : j ≤ v.length) : (mv p v j).length = v.length + 1 := by simp [mv]; omega
theorem mv_n {p : Int} {v : List Int} : mv p v v.length = v ++ [p] := by simp [mv]
theorem mv_at {p : Int} {v : List Int} {j : Nat} (h : j ≤ v.length) : (mv p v j)[j]? = some p := by
  rw [mv, List.getElem?_append_right (by simp; omega), List.length_take, Nat.min_eq_left h, Nat.sub_self]; rfl
theorem mv_bf {p x : Int} {v : List Int} {k : Nat} (h : v[k]? = some x) : (mv p v (k + 1))[k]? = some x := by
  have hk := lt_of_get h
  rw [mv, List.getElem?_append_left (by simp; omega), List.getElem?_take_of_lt (by omega)]
  exact h
theorem mv_swap {p x : Int} {v : List Int} {k : Nat} (h : v[k]? = some x) : ((mv p v (k + 1)).set (k + 1) x).set k p = mv p v k := by
  have hk := lt_of_get h
  rw [mv, take_snoc h, mv, adrop_get h, List.append_assoc]
  have hl : (v.take k).length = k := by simp; omega
  rw [List.set_append_right _ _ (by omega), hl, show k + 1 - k = 1 by omega, List.set_append_right _ _ (by omega), hl, Nat.sub_self]
  rfl
theorem insSort_fn (p : Int) (v : List Int) (hr : risen v) (hp : p ∉ v) (hlen : v.length ≤ 6) : FnM prog 62 false (.sl true 1 (dl iD (v ++ [p]))) [.int .i64 0, .int .i64 (v.length + 1)] (fun x' rs => x' = .sl true 1 (dl iD (putI p v)) ∧ rs = []) := by
  have hput : ∀ j, j ≤ v.length → (∀ m x, m < j → v[m]? = some x → x < p) → (∀ x, v[j]? = some x → ¬ x < p) → mv p v j = putI p v := fun j h1 h2 h3 => by rw [putI, pos_eq v j h1 h2 h3, mv]
  have hnp : ∀ {m x : _}, v[m]? = some x → x ≠ p := fun {m x} h e => hp (e ▸ List.mem_of_getElem? h)
  refine FnM_of' (fn := f62) (by exact func62) c62 r62 (n := 49) (by rfl) (rv := []) (by rfl) (by decide) (by simp) ?_
  unfold m62
  simp only [dl_len, ↓wA, ↓wC, wB, frzBE, frzBS, Nat.reduceEqDiff, Nat.reduceAdd, Nat.reduceSub, reduceIte, reduceCtorEq, Nat.reduceBEq, Nat.reduceLT, decide_true]
  refine onI_bare (by simp only [InR]; omega) ?_
  refine exec_loop (fun i : Nat => ⟨[(0, .own 0), (1, .d (.int .i64 0)), (2, .d (.int .i64 (v.length + 1))), (6, .d (.int .i64 i))], [.val (.sl true 1 (dl iD (if i ≤ v.length then v ++ [p] else putI p v)))]⟩) (fun i => 1 ≤ i ∧ i ≤ v.length + 1) (fun i => v.length + 1 - i) 1 ?_ ⟨by omega, by omega⟩ ?_
  · have e : (if 1 ≤ v.length then v ++ [p] else putI p v) = v ++ [p] := by
      split
      · rfl
      · rename_i h
        have h0 : v.length = 0 := by omega
        have e : v = [] := List.length_eq_zero_iff.1 h0
        subst e
        rfl
    rw [e]
    exact (weak_of _ rfl ⟨⟨rfl, rfl⟩, ⟨rfl, rfl⟩, ⟨rfl, rfl⟩, ⟨rfl, rfl⟩, trivial⟩)
  rintro i ⟨hi1, hi2⟩
  by_cases hin : i = v.length + 1
  · subst hin
    have hd : decide (((v.length + 1 : Nat) : Int) < (v.length : Int) + 1) = false := decide_eq_false (by omega)
    rw [if_neg (by omega)]
    simp only [hd, ↓wA, ↓wC, wB, frzBE, frzBS, Nat.reduceEqDiff, Nat.reduceAdd, Nat.reduceSub, reduceIte, reduceCtorEq, Nat.reduceBEq, Nat.reduceLT, decide_true]
  · have hd : decide ((i : Int) < (v.length : Int) + 1) = true := decide_eq_true (by omega)
    rw [if_pos (by omega)]
    by_cases hlt : i < v.length
    · obtain ⟨k, rfl⟩ : ∃ k, i = k + 1 := ⟨i - 1, by omega⟩
      obtain ⟨y, hy⟩ := get_lt hlt
      obtain ⟨x, hx⟩ := get_lt (show k < v.length by omega)
      have hxy := hr k x y hx hy
      have h1 : decide (0 < ((k + 1 : Nat) : Int)) = true := decide_eq_true (by omega)
      have h2 : decide (y < x) = false := decide_eq_false (by omega)
      have hn1 : (((k + 1 : Nat) : Int) - 1).toNat = k := by omega
      have h0 : (0 : Int) ≤ ((k + 1 : Nat) : Int) := by omega
      have h0' : (0 : Int) ≤ ((k + 1 : Nat) : Int) - 1 := by omega
      have hg1 : (v ++ [p])[k + 1]? = some y := by rw [List.getElem?_append_left hlt]; exact hy
      have hg2 : (v ++ [p])[k]? = some x := by rw [List.getElem?_append_left (by omega)]; exact hx
      simp only [hd, ↓wA, ↓wC, wB, frzBE, frzBS, Nat.reduceEqDiff, Nat.reduceAdd, Nat.reduceSub, reduceIte, reduceCtorEq, Nat.reduceBEq, Nat.reduceLT, decide_true]
      refine exec_loop (fun _ : Unit => ⟨[(0, .own 0), (1, .d (.int .i64 0)), (2, .d (.int .i64 (v.length + 1))), (6, .d (.int .i64 ((k + 1 : Nat) : Int))), (7, .d (.int .i64 ((k + 1 : Nat) : Int)))], [.val (.sl true 1 (dl iD (v ++ [p])))]⟩) (fun _ => True) (fun _ => 0) () (weak_of _ rfl ⟨⟨rfl, rfl⟩, ⟨rfl, rfl⟩, ⟨rfl, rfl⟩, ⟨rfl, rfl⟩, ⟨rfl, rfl⟩, trivial⟩) trivial ?_
      rintro _ _
      repeat' (first
          | (simp only [dl_len, rd_iD, h1, h2, hn1, h0, h0', dl_nth, hg1, hg2, Option.map_some, onC_true, Int.toNat_natCast, dget_int, doff_int, size_int, ↓wA, ↓wC, wB, frzBE, frzBS, Nat.reduceEqDiff, Nat.reduceAdd, Nat.reduceSub, reduceIte, reduceCtorEq, Nat.reduceBEq, Nat.reduceLT, decide_true])
          | (refine call_det (cmpLess_fn y x) rfl rfl ?_)
          | (refine callP_det (cmpLess_fn y x) rfl rfl ?_)
          | (refine callP_det (cmpLess_fn _ _) rfl rfl ?_)
          | (with_reducible refine onI_bare ?_ ?_; focus (simp only [InR]; omega))
          | (refine execG_split (fun h => ?_) (fun h => ?_) <;> simp only [h])
          | (refine execC_split (fun h => ?_) (fun h => ?_) <;> (try simp only [h]))
          | (refine onPick_split (fun h => ?_) (fun h => ?_) <;> (try simp only [h])))
      refine ⟨k + 1 + 1, ?_, ⟨by omega, by omega⟩, by omega⟩
      rw [if_pos (by omega)]
      exact (weak_of _ rfl ⟨⟨rfl, rfl⟩, ⟨rfl, rfl⟩, ⟨rfl, rfl⟩, ⟨rfl, rfl⟩, trivial⟩)
    · have e : i = v.length := by omega
      subst e
      simp only [hd, ↓wA, ↓wC, wB, frzBE, frzBS, Nat.reduceEqDiff, Nat.reduceAdd, Nat.reduceSub, reduceIte, reduceCtorEq, Nat.reduceBEq, Nat.reduceLT, decide_true]
      refine exec_loop (fun j : Nat => ⟨[(0, .own 0), (1, .d (.int .i64 0)), (2, .d (.int .i64 (v.length + 1))), (6, .d (.int .i64 (v.length : Int))), (7, .d (.int .i64 j))], [.val (.sl true 1 (dl iD (mv p v j)))]⟩) (fun j => j ≤ v.length ∧ ∀ x, v[j]? = some x → ¬ x < p) (fun j => j) v.length ?_ ⟨Nat.le_refl _, fun x hx => absurd (lt_of_get hx) (by omega)⟩ ?_
      · rw [mv_n]; exact (weak_of _ rfl ⟨⟨rfl, rfl⟩, ⟨rfl, rfl⟩, ⟨rfl, rfl⟩, ⟨rfl, rfl⟩, ⟨rfl, rfl⟩, trivial⟩)
      rintro j ⟨hj, hjx⟩
      cases j with
      | zero =>
        have hf := hput 0 hj (fun m x hm _ => by omega) hjx
        have h1 : decide (0 < ((0 : Nat) : Int)) = false := rfl
        repeat' (first
            | (simp only [h1, ↓wA, ↓wC, wB, frzBE, frzBS, Nat.reduceEqDiff, Nat.reduceAdd, Nat.reduceSub, reduceIte, reduceCtorEq, Nat.reduceBEq, Nat.reduceLT, decide_true])
            | (with_reducible refine onI_bare ?_ ?_; focus (simp only [InR]; omega))
            | (refine execG_split (fun h => ?_) (fun h => ?_) <;> simp only [h])
            | (refine execC_split (fun h => ?_) (fun h => ?_) <;> (try simp only [h]))
            | (refine onPick_split (fun h => ?_) (fun h => ?_) <;> (try simp only [h])))
        refine ⟨v.length + 1, ?_, ⟨by omega, by omega⟩, by omega⟩
        rw [if_neg (by omega), ← hf]
        exact (weak_of _ rfl ⟨⟨rfl, rfl⟩, ⟨rfl, rfl⟩, ⟨rfl, rfl⟩, ⟨rfl, rfl⟩, trivial⟩)
      | succ k =>
        obtain ⟨x, hx⟩ := get_lt (show k < v.length by omega)
        have hne := hnp hx
        have h1 : decide (0 < ((k + 1 : Nat) : Int)) = true := decide_eq_true (by omega)
        have hn1 : (((k + 1 : Nat) : Int) - 1).toNat = k := by omega
        have h0 : (0 : Int) ≤ ((k + 1 : Nat) : Int) := by omega
        have h0' : (0 : Int) ≤ ((k + 1 : Nat) : Int) - 1 := by omega
        have hg1 := mv_at (p := p) hj
        have hg2 := mv_bf (p := p) hx
        have hml := mv_len (p := p) hj
        have hs1 : ((dl iD (mv p v (k + 1))).setN (k + 1) (.int .i64 x)) = dl iD ((mv p v (k + 1)).set (k + 1) x) := dl_setN (f := iD) _ _ x
        have hs2 : ((dl iD ((mv p v (k + 1)).set (k + 1) x)).setN k (.int .i64 p)) = dl iD (mv p v k) := (dl_setN (f := iD) _ _ p).trans (by rw [mv_swap hx])
        have hg3 : ((mv p v (k + 1)).set (k + 1) x)[k]? = some x := by rw [List.getElem?_set_ne (by omega)]; exact hg2
        cases hc : decide (p < x) with
        | false =>
          have hf := hput (k + 1) hj (fun m z hm hz => by
            have hc' := of_decide_eq_false hc
            by_cases e : m = k
            · subst e
              rw [hx] at hz
              injection hz with hz
              omega
            · have := risen_lt hr k m z x (by omega) hz hx
              omega) hjx
          repeat' (first
              | (simp only [dl_len, rd_iD, hml, h1, hc, hn1, h0, h0', dl_nth, hg1, hg2, Option.map_some, onC_true, Int.toNat_natCast, dget_int, doff_int, size_int, ↓wA, ↓wC, wB, frzBE, frzBS, Nat.reduceEqDiff, Nat.reduceAdd, Nat.reduceSub, reduceIte, reduceCtorEq, Nat.reduceBEq, Nat.reduceLT, decide_true])
              | (refine callP_det (cmpLess_fn _ _) rfl rfl ?_)
              | (with_reducible refine onI_bare ?_ ?_; focus (simp only [InR]; omega))
              | (refine execG_split (fun h => ?_) (fun h => ?_) <;> simp only [h])
              | (refine execC_split (fun h => ?_) (fun h => ?_) <;> (try simp only [h]))
              | (refine onPick_split (fun h => ?_) (fun h => ?_) <;> (try simp only [h])))
          refine ⟨v.length + 1, ?_, ⟨by omega, by omega⟩, by omega⟩
          rw [if_neg (by omega), ← hf]
          exact (weak_of _ rfl ⟨⟨rfl, rfl⟩, ⟨rfl, rfl⟩, ⟨rfl, rfl⟩, ⟨rfl, rfl⟩, trivial⟩)
        | true =>
          repeat' (first
              | (simp only [dl_len, rd_iD, hml, h1, hc, hn1, h0, h0', dl_nth, hg1, hg2, hg3, hs1, hs2, setN_len, List.length_set, Option.map_some, onC_true, Int.toNat_natCast, dget_int, doff_int, size_int, ↓wA, ↓wC, wB, frzBE, frzBS, Nat.reduceEqDiff, Nat.reduceAdd, Nat.reduceSub, reduceIte, reduceCtorEq, Nat.reduceBEq, Nat.reduceLT, decide_true])
              | (refine callP_det (cmpLess_fn _ _) rfl rfl ?_)
              | (refine onJ_q ?_)
              | (with_reducible refine onI_bare ?_ ?_; focus (simp only [InR]; omega))
              | (refine execG_split (fun h => ?_) (fun h => ?_) <;> simp only [h])
              | (refine execC_split (fun h => ?_) (fun h => ?_) <;> (try simp only [h]))
              | (refine onPick_split (fun h => ?_) (fun h => ?_) <;> (try simp only [h])))
          rw [show ((k + 1 : Nat) : Int) - 1 = (k : Int) by omega]
          refine ⟨k, (weak_of _ rfl ⟨⟨rfl, rfl⟩, ⟨rfl, rfl⟩, ⟨rfl, rfl⟩, ⟨rfl, rfl⟩, ⟨rfl, rfl⟩, trivial⟩), ⟨by omega, fun z hz => ?_⟩, by omega⟩
          rw [hx] at hz
          injection hz with hz
          have := of_decide_eq_true hc
          omega
theorem bitsLen_fn (n : Nat) (h : n ≤ 7) : Fn prog 49 [.int .u64 n] (fun rs => rs = [.int .i64 (lenTab n)]) := by
  have h1 := len64_fn n h
  refine Fn_of' (fn := f49) (by exact func49) c49 r49 (n := 8) (by rfl) (rv := [.tmp 2]) (by rfl) (by simp) ?_
  unfold m49
  repeat' (first
      | (simp only [↓wA, ↓wC, wB, frzBE, frzBS, Nat.reduceEqDiff, Nat.reduceAdd, Nat.reduceSub, reduceIte, reduceCtorEq, Nat.reduceBEq, Nat.reduceLT, decide_true])
      | (refine call_det (h1) rfl rfl ?_)
      | (refine callP_det (h1) rfl rfl ?_)
      | (refine execG_split (fun h => ?_) (fun h => ?_) <;> simp only [h])
      | (refine execC_split (fun h => ?_) (fun h => ?_) <;> (try simp only [h]))
      | (refine onPick_split (fun h => ?_) (fun h => ?_) <;> (try simp only [h])))
theorem pdq_fn (p : Int) (v : List Int) (m : Int) (hr : risen v) (hp : p ∉ v) (hlen : v.length ≤ 6) : FnM prog 48 false (.sl true 1 (dl iD (v ++ [p]))) [.int .i64 0, .int .i64 (v.length + 1), .int .i64 m] (fun x' rs => x' = .sl true 1 (dl iD (putI p v)) ∧ rs = []) := by
  have hI := insSort_fn p v hr hp hlen
  have h12 : decide ((v.length : Int) + 1 - 0 ≤ 12) = true := decide_eq_true (by omega)
  refine FnM_of' (fn := f48) (by exact func48) c48 r48 (n := 134) (by rfl) (rv := []) (by rfl) (by decide) (by simp) ?_
  unfold m48
  simp only [↓wA, ↓wC, wB, frzBE, frzBS, Nat.reduceEqDiff, Nat.reduceAdd, Nat.reduceSub, reduceIte, reduceCtorEq, Nat.reduceBEq, Nat.reduceLT, decide_true]
  refine exec_loop (fun _ : Unit => ⟨[(0, .own 0), (1, .d (.int .i64 0)), (2, .d (.int .i64 (v.length + 1))), (3, .d (.int .i64 m)), (8, .d (.bool true)), (9, .d (.bool true))], [.val (.sl true 1 (dl iD (v ++ [p])))]⟩) (fun _ => True) (fun _ => 0) () (weak_of _ rfl ⟨⟨rfl, rfl⟩, ⟨rfl, rfl⟩, ⟨rfl, rfl⟩, ⟨rfl, rfl⟩, ⟨rfl, rfl⟩, ⟨rfl, rfl⟩, trivial⟩) trivial ?_
  rintro _ _
  repeat' (first
      | (simp only [h12, ↓wA, ↓wC, wB, frzBE, frzBS, Nat.reduceEqDiff, Nat.reduceAdd, Nat.reduceSub, reduceIte, reduceCtorEq, Nat.reduceBEq, Nat.reduceLT, decide_true])
      | (refine callM_det hI rfl rfl rfl ?_)
      | (with_reducible refine onI_bare ?_ ?_; focus (simp only [InR]; omega))
      | (refine execG_split (fun h => ?_) (fun h => ?_) <;> simp only [h])
      | (refine execC_split (fun h => ?_) (fun h => ?_) <;> (try simp only [h]))
      | (refine onPick_split (fun h => ?_) (fun h => ?_) <;> (try simp only [h])))
theorem sort_fn (p : Int) (v : List Int) (hr : risen v) (hp : p ∉ v) (hlen : v.length ≤ 6) : FnM prog 28 false (.sl true 1 (dl iD (v ++ [p]))) [] (fun x' rs => x' = .sl true 1 (dl iD (putI p v)) ∧ rs = []) := by
  have hl : ((v.length + 1 : Nat) : Int) = (v.length : Int) + 1 := by omega
  have hl2 : (v ++ [p]).length = v.length + 1 := by simp
  have hB : Fn prog 49 [.int .u64 ((v.length : Int) + 1)] (fun rs => rs = [.int .i64 (lenTab (v.length + 1))]) := bitsLen_fn (v.length + 1) (by omega)
  have hP := pdq_fn p v (lenTab (v.length + 1)) hr hp hlen
  have hU : InR .u64 ((v.length : Int) + 1) := by
    have h8 : v.length = 0 ∨ v.length = 1 ∨ v.length = 2 ∨ v.length = 3 ∨ v.length = 4 ∨ v.length = 5 ∨ v.length = 6 := by omega
    rcases h8 with h | h | h | h | h | h | h
    all_goals
      rw [h]
      show IntKind.wrap .u64 _ = _
      decide
  refine FnM_of' (fn := f28) (by exact func28) c28 r28 (n := 11) (by rfl) (rv := []) (by rfl) (by decide) (by simp) ?_
  unfold m28
  repeat' (first
      | (simp only [dl_len, hl2, hl, ↓wA, ↓wC, wB, frzBE, frzBS, Nat.reduceEqDiff, Nat.reduceAdd, Nat.reduceSub, reduceIte, reduceCtorEq, Nat.reduceBEq, Nat.reduceLT, decide_true])
      | (refine call_det (hB) rfl rfl ?_)
      | (refine callP_det (hB) rfl rfl ?_)
      | (refine onI_bare hU ?_)
      | (refine callM_det hP rfl rfl rfl ?_)
      | (with_reducible refine onI_bare ?_ ?_; focus (simp only [InR]; omega))
      | (refine execG_split (fun h => ?_) (fun h => ?_) <;> simp only [h])
      | (refine execC_split (fun h => ?_) (fun h => ?_) <;> (try simp only [h]))
      | (refine onPick_split (fun h => ?_) (fun h => ?_) <;> (try simp only [h])))
end Go.Pe.Try
