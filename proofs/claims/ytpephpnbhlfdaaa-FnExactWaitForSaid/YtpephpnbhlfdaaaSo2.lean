/- A stable sort of a few appeals by day, walked. -/
import Derived.Test.YtpephpnbhlfdaaaSo1
set_option maxRecDepth 100000
set_option maxHeartbeats 4000000
set_option linter.all false
namespace Go.Pe.Try
open Go.Proofs.Try
def cmpI (a b : Int) : Int := if a < b then -1 else if b < a then 1 else 0
theorem cmpI_lt (a b : Int) : decide (cmpI a b < 0) = decide (a < b) := by
  unfold cmpI
  split
  · rename_i h; simp [h]
  · rename_i h
    split
    · simp [h]
    · simp [h]
theorem cmpCompare_fn (a b : Int) : Fn prog 34 [.int .i64 a, .int .i64 b] (fun rs => rs = [.int .i64 (cmpI a b)]) := by
  have h1 := isNaN_fn a
  have h2 := isNaN_fn b
  refine Fn_of' (fn := f34) (by exact func34) c34 r34 (n := 20) (by rfl) (rv := [.tmp 4]) (by rfl) (by simp) ?_
  unfold m34
  repeat' (first
      | (simp only [↓wA, ↓wC, wB, frzBE, frzBS, Nat.reduceEqDiff, Nat.reduceAdd, Nat.reduceSub, reduceIte, reduceCtorEq, Nat.reduceBEq, Nat.reduceLT, decide_true])
      | (refine call_det (h1) rfl rfl ?_)
      | (refine callP_det (h1) rfl rfl ?_)
      | (refine call_det (h2) rfl rfl ?_)
      | (refine callP_det (h2) rfl rfl ?_)
      | (refine execG_split (fun h => ?_) (fun h => ?_) <;> simp only [h])
      | (refine execC_split (fun h => ?_) (fun h => ?_) <;> (try simp only [h]))
      | (refine onPick_split (fun h => ?_) (fun h => ?_) <;> (try simp only [h])))
  all_goals (simp_all [cmpI] <;> (repeat' split) <;> omega)
theorem cmpDay_fn (x y : App) : Fn prog 33 [x.d', y.d'] (fun rs => rs = [.int .i64 (cmpI x.d y.d)]) := by
  have h := cmpCompare_fn x.d y.d
  refine Fn_of' (fn := f33) (by exact func33) c33 r33 (n := 10) (by rfl) (rv := [.tmp 4]) (by rfl) (by simp) ?_
  unfold m33
  simp only [App.d']
  repeat' (first
      | (simp only [ints_noOwn, onC_true, ↓wA, ↓wC, wB, frzBE, frzBS, Nat.reduceEqDiff, Nat.reduceAdd, Nat.reduceSub, reduceIte, reduceCtorEq, Nat.reduceBEq, Nat.reduceLT, decide_true])
      | (refine call_det (h) rfl rfl ?_)
      | (refine callP_det (h) rfl rfl ?_)
      | (refine execG_split (fun h => ?_) (fun h => ?_) <;> simp only [h])
      | (refine execC_split (fun h => ?_) (fun h => ?_) <;> (try simp only [h]))
      | (refine onPick_split (fun h => ?_) (fun h => ?_) <;> (try simp only [h])))
def insA (x : App) : List App → List App
  | [] => [x]
  | a :: t => if a.d ≤ x.d then a :: insA x t else x :: a :: t
theorem insA_len (x : App) : ∀ v : List App, (insA x v).length = v.length + 1
  | [] => rfl
  | a :: t => by
    unfold insA
    split
    · simp [insA_len x t]
    · simp
theorem insA_eq {x : App} : ∀ (v : List App) (j : Nat), j ≤ v.length → (∀ m y, m < j → v[m]? = some y → y.d ≤ x.d) → (∀ y, v[j]? = some y → ¬ y.d ≤ x.d) → v.take j ++ x :: v.drop j = insA x v
  | [], j, h, _, _ => by simp [insA]
  | a :: t, 0, _, _, h3 => by
    rw [insA, if_neg (h3 a rfl)]; rfl
  | a :: t, j + 1, h, h2, h3 => by
    rw [insA, if_pos (h2 0 a (by omega) rfl), ← insA_eq t j (by simpa using h) (fun m y hm hy => h2 (m + 1) y (by omega) (by simpa using hy)) (fun y hy => h3 y (by simpa using hy))]
    rfl
def upA (v : List App) : Prop := v.Pairwise (fun a b => a.d ≤ b.d)
theorem insA_mem {x y : App} : ∀ {v : List App}, y ∈ insA x v → y = x ∨ y ∈ v
  | [], h => by simpa [insA] using h
  | a :: t, h => by
    unfold insA at h
    split at h
    · rcases List.mem_cons.1 h with h | h
      · exact .inr (by simp [h])
      · rcases insA_mem h with h | h
        · exact .inl h
        · exact .inr (by simp [h])
    · rcases List.mem_cons.1 h with h | h
      · exact .inl h
      · exact .inr h
theorem insA_up {x : App} : ∀ {v : List App}, upA v → upA (insA x v)
  | [], _ => List.pairwise_singleton _ _
  | a :: t, h => by
    have h := List.pairwise_cons.1 h
    unfold insA
    split
    · rename_i hle
      refine List.pairwise_cons.2 ⟨fun y hy => ?_, insA_up h.2⟩
      rcases insA_mem hy with rfl | hy
      · exact hle
      · exact h.1 y hy
    · rename_i hle
      refine List.pairwise_cons.2 ⟨fun y hy => ?_, List.pairwise_cons.2 h⟩
      rcases List.mem_cons.1 hy with rfl | hy
      · omega
      · have := h.1 y hy
        omega
theorem upA_get : ∀ {v : List App} {m k : Nat} {a b : App}, upA v → m < k → v[m]? = some a → v[k]? = some b → a.d ≤ b.d
  | [], m, k, a, b, _, _, h, _ => by simp at h
  | c :: t, 0, k + 1, a, b, h, _, ha, hb => by
    have h := List.pairwise_cons.1 h
    simp only [List.getElem?_cons_zero, Option.some.injEq] at ha
    subst ha
    exact h.1 b (List.mem_of_getElem? (by simpa using hb))
  | c :: t, m + 1, k + 1, a, b, h, hm, ha, hb => upA_get (m := m) (k := k) (List.pairwise_cons.1 h).2 (by omega) (by simpa using ha) (by simpa using hb)
def sortA (L : List App) : List App := L.foldl (fun acc x => insA x acc) []
theorem sortA_snoc (L : List App) (x : App) : sortA (L ++ [x]) = insA x (sortA L) := by simp [sortA]
theorem sortA_len (L : List App) : (sortA L).length = L.length := by
  have : ∀ (L acc : List App), (L.foldl (fun acc x => insA x acc) acc).length = acc.length + L.length := by
    intro L
    induction L with
    | nil => intro acc; rfl
    | cons a t ih => intro acc; rw [List.foldl_cons, ih, insA_len, List.length_cons]; omega
  rw [sortA, this]; simp
theorem sortA_up (L : List App) : upA (sortA L) := by
  have : ∀ (L acc : List App), upA acc → upA (L.foldl (fun acc x => insA x acc) acc) := by
    intro L
    induction L with
    | nil => intro acc h; exact h
    | cons a t ih => intro acc h; exact ih _ (insA_up h)
  exact this L [] List.Pairwise.nil
def mvA (x : App) (v : List App) (r : List App) (j : Nat) : List App := v.take j ++ x :: (v.drop j ++ r)
theorem mvA_len {x : App} {v r : List App} {j : Nat} (h : j ≤ v.length) : (mvA x v r j).length = v.length + 1 + r.length := by simp [mvA]; omega
theorem mvA_n {x : App} {v r : List App} : mvA x v r v.length = v ++ x :: r := by simp [mvA]
theorem mvA_at {x : App} {v r : List App} {j : Nat} (h : j ≤ v.length) : (mvA x v r j)[j]? = some x := by
  rw [mvA, List.getElem?_append_right (by simp; omega), List.length_take, Nat.min_eq_left h, Nat.sub_self]; rfl
theorem mvA_bf {x y : App} {v r : List App} {k : Nat} (h : v[k]? = some y) : (mvA x v r (k + 1))[k]? = some y := by
  have hk := lt_of_get h
  rw [mvA, List.getElem?_append_left (by simp; omega), List.getElem?_take_of_lt (by omega)]
  exact h
theorem mvA_swap {x y : App} {v r : List App} {k : Nat} (h : v[k]? = some y) : ((mvA x v r (k + 1)).set (k + 1) y).set k x = mvA x v r k := by
  have hk := lt_of_get h
  rw [mvA, take_snoc h, mvA, adrop_get h, List.append_assoc]
  have hl : (v.take k).length = k := by simp; omega
  rw [List.set_append_right _ _ (by omega), hl, show k + 1 - k = 1 by omega, List.set_append_right _ _ (by omega), hl, Nat.sub_self]
  rfl
theorem mvA_ins {x : App} {v r : List App} {j : Nat} (h : v.take j ++ x :: v.drop j = insA x v) : mvA x v r j = insA x v ++ r := by
  rw [← h, mvA]; simp
theorem insSortA_fn (L : List App) (hlen : L.length ≤ 10) : FnM prog 73 false (.sl true 6 (dl App.d' L)) [.int .i64 0, .int .i64 L.length, .clo 33 .nil] (fun x' rs => x' = .sl true 6 (dl App.d' (sortA L)) ∧ rs = []) := by
  have hen := en33
  refine FnM_of' (fn := f73) (by exact func73) c73 r73 (n := 53) (by rfl) (rv := []) (by rfl) (by decide) (by simp) ?_
  unfold m73
  simp only [↓wA, ↓wC, wB, frzBE, frzBS, Nat.reduceEqDiff, Nat.reduceAdd, Nat.reduceSub, reduceIte, reduceCtorEq, Nat.reduceBEq, Nat.reduceLT, decide_true]
  refine onI_bare (by simp only [InR]; omega) ?_
  refine exec_loop (fun i : Nat => ⟨[(0, .own 0), (1, .d (.int .i64 0)), (2, .d (.int .i64 L.length)), (3, .d (.clo 33 .nil)), (8, .d (.int .i64 i))], [.val (.sl true 6 (dl App.d' (sortA (L.take i) ++ L.drop i)))]⟩) (fun i => 1 ≤ i ∧ i ≤ L.length + 1) (fun i => L.length + 1 - i) 1 ?_ ⟨by omega, by omega⟩ ?_
  · have e : sortA (L.take 1) ++ L.drop 1 = L := by
      cases L with
      | nil => rfl
      | cons a t => rfl
    rw [e]
    exact (weak_of _ rfl ⟨⟨rfl, rfl⟩, ⟨rfl, rfl⟩, ⟨rfl, rfl⟩, ⟨rfl, rfl⟩, ⟨rfl, rfl⟩, trivial⟩)
  rintro i ⟨hi1, hi2⟩
  by_cases hlt : i < L.length
  · have hd : decide ((i : Int) < (L.length : Int)) = true := decide_eq_true (by omega)
    obtain ⟨x, hx⟩ := get_lt hlt
    have hvl : (sortA (L.take i)).length = i := by rw [sortA_len]; simp; omega
    have hup := sortA_up (L.take i)
    have hsn : sortA (L.take (i + 1)) = insA x (sortA (L.take i)) := by rw [take_snoc hx, sortA_snoc]
    rw [adrop_get hx]
    generalize hv : sortA (L.take i) = v at hvl hup hsn ⊢
    generalize hrr : L.drop (i + 1) = r
    have hrl : v.length + 1 + r.length = L.length := by rw [hvl, ← hrr]; simp; omega
    subst hvl
    simp only [hd, ↓wA, ↓wC, wB, frzBE, frzBS, Nat.reduceEqDiff, Nat.reduceAdd, Nat.reduceSub, reduceIte, reduceCtorEq, Nat.reduceBEq, Nat.reduceLT, decide_true]
    refine exec_loop (fun j : Nat => ⟨[(0, .own 0), (1, .d (.int .i64 0)), (2, .d (.int .i64 L.length)), (3, .d (.clo 33 .nil)), (8, .d (.int .i64 (v.length : Int))), (9, .d (.int .i64 j))], [.val (.sl true 6 (dl App.d' (mvA x v r j)))]⟩) (fun j => j ≤ v.length ∧ ∀ y, v[j]? = some y → ¬ y.d ≤ x.d) (fun j => j) v.length ?_ ⟨Nat.le_refl _, fun y hy => absurd (lt_of_get hy) (by omega)⟩ ?_
    · rw [mvA_n]; exact (weak_of _ rfl ⟨⟨rfl, rfl⟩, ⟨rfl, rfl⟩, ⟨rfl, rfl⟩, ⟨rfl, rfl⟩, ⟨rfl, rfl⟩, ⟨rfl, rfl⟩, trivial⟩)
    rintro j ⟨hj, hjx⟩
    cases j with
    | zero =>
      have hf := mvA_ins (r := r) (insA_eq v 0 hj (fun m y hm _ => by omega) hjx)
      have h1 : decide (0 < ((0 : Nat) : Int)) = false := rfl
      repeat' (first
          | (simp only [h1, ↓wA, ↓wC, wB, frzBE, frzBS, Nat.reduceEqDiff, Nat.reduceAdd, Nat.reduceSub, reduceIte, reduceCtorEq, Nat.reduceBEq, Nat.reduceLT, decide_true])
          | (with_reducible refine onI_bare ?_ ?_; focus (simp only [InR]; omega))
          | (refine execG_split (fun h => ?_) (fun h => ?_) <;> simp only [h])
          | (refine execC_split (fun h => ?_) (fun h => ?_) <;> (try simp only [h]))
          | (refine onPick_split (fun h => ?_) (fun h => ?_) <;> (try simp only [h])))
      refine ⟨v.length + 1, ?_, ⟨by omega, by omega⟩, by omega⟩
      rw [hsn, hrr, ← hf]
      exact (weak_of _ rfl ⟨⟨rfl, rfl⟩, ⟨rfl, rfl⟩, ⟨rfl, rfl⟩, ⟨rfl, rfl⟩, ⟨rfl, rfl⟩, trivial⟩)
    | succ k =>
      obtain ⟨y, hy⟩ := get_lt (show k < v.length by omega)
      have h1 : decide (0 < ((k + 1 : Nat) : Int)) = true := decide_eq_true (by omega)
      have hn1 : (((k + 1 : Nat) : Int) - 1).toNat = k := by omega
      have h0 : (0 : Int) ≤ ((k + 1 : Nat) : Int) := by omega
      have h0' : (0 : Int) ≤ ((k + 1 : Nat) : Int) - 1 := by omega
      have hg1 := mvA_at (x := x) (r := r) hj
      have hg2 := mvA_bf (x := x) (r := r) hy
      have hml := mvA_len (x := x) (r := r) hj
      have hs1 : ((dl App.d' (mvA x v r (k + 1))).setN (k + 1) y.d') = dl App.d' ((mvA x v r (k + 1)).set (k + 1) y) := dl_setN _ _ y
      have hs2 : ((dl App.d' ((mvA x v r (k + 1)).set (k + 1) y)).setN k x.d') = dl App.d' (mvA x v r k) := (dl_setN _ _ x).trans (by rw [mvA_swap hy])
      have hg3 : ((mvA x v r (k + 1)).set (k + 1) y)[k]? = some y := by rw [List.getElem?_set_ne (by omega)]; exact hg2
      have hq := cmpI_lt x.d y.d
      cases hc : decide (x.d < y.d) with
      | false =>
        rw [hc] at hq
        have hf := mvA_ins (r := r) (insA_eq v (k + 1) hj (fun m z hm hz => by
          have hc' := of_decide_eq_false hc
          by_cases e : m = k
          · subst e
            rw [hy] at hz
            injection hz with hz
            rw [← hz]
            omega
          · have := upA_get hup (show m < k by omega) hz hy
            omega) hjx)
        repeat' (first
            | (simp only [dl_len, hml, h1, hq, hn1, h0, h0', dl_nth, hg1, hg2, Option.map_some, onC_true, Int.toNat_natCast, ↓rd_app, oa_size, oa_isV, App.noOwn, ↓wA, ↓wC, wB, frzBE, frzBS, Nat.reduceEqDiff, Nat.reduceAdd, Nat.reduceSub, reduceIte, reduceCtorEq, Nat.reduceBEq, Nat.reduceLT, decide_true])
            | (refine callV_det (cmpDay_fn _ _) hen rfl rfl rfl ?_)
            | (with_reducible refine onI_bare ?_ ?_; focus (simp only [InR]; omega))
            | (refine execG_split (fun h => ?_) (fun h => ?_) <;> simp only [h])
            | (refine execC_split (fun h => ?_) (fun h => ?_) <;> (try simp only [h]))
            | (refine onPick_split (fun h => ?_) (fun h => ?_) <;> (try simp only [h])))
        refine ⟨v.length + 1, ?_, ⟨by omega, by omega⟩, by omega⟩
        rw [hsn, hrr, ← hf]
        exact (weak_of _ rfl ⟨⟨rfl, rfl⟩, ⟨rfl, rfl⟩, ⟨rfl, rfl⟩, ⟨rfl, rfl⟩, ⟨rfl, rfl⟩, trivial⟩)
      | true =>
        rw [hc] at hq
        repeat' (first
            | (simp only [dl_len, hml, h1, hq, hn1, h0, h0', dl_nth, hg1, hg2, hg3, hs1, hs2, setN_len, List.length_set, Option.map_some, onC_true, Int.toNat_natCast, ↓rd_app, oa_size, oa_isV, App.noOwn, ↓wA, ↓wC, wB, frzBE, frzBS, Nat.reduceEqDiff, Nat.reduceAdd, Nat.reduceSub, reduceIte, reduceCtorEq, Nat.reduceBEq, Nat.reduceLT, decide_true])
            | (refine callV_det (cmpDay_fn _ _) hen rfl rfl rfl ?_)
            | (refine onJ_q ?_)
            | (with_reducible refine onI_bare ?_ ?_; focus (simp only [InR]; omega))
            | (refine execG_split (fun h => ?_) (fun h => ?_) <;> simp only [h])
            | (refine execC_split (fun h => ?_) (fun h => ?_) <;> (try simp only [h]))
            | (refine onPick_split (fun h => ?_) (fun h => ?_) <;> (try simp only [h])))
        rw [show ((k + 1 : Nat) : Int) - 1 = (k : Int) by omega]
        refine ⟨k, (weak_of _ rfl ⟨⟨rfl, rfl⟩, ⟨rfl, rfl⟩, ⟨rfl, rfl⟩, ⟨rfl, rfl⟩, ⟨rfl, rfl⟩, ⟨rfl, rfl⟩, trivial⟩), ⟨by omega, fun z hz => ?_⟩, by omega⟩
        rw [hy] at hz
        injection hz with hz
        rw [← hz]
        have := of_decide_eq_true hc
        omega
  · have hd : decide ((i : Int) < (L.length : Int)) = false := decide_eq_false (by omega)
    have e : sortA (L.take i) ++ L.drop i = sortA L := by
      rw [List.take_of_length_le (by omega), List.drop_eq_nil_of_le (by omega), List.append_nil]
    rw [e]
    simp only [hd, ↓wA, ↓wC, wB, frzBE, frzBS, Nat.reduceEqDiff, Nat.reduceAdd, Nat.reduceSub, reduceIte, reduceCtorEq, Nat.reduceBEq, Nat.reduceLT, decide_true]
theorem stable_fn (L : List App) (hlen : L.length ≤ 10) : FnM prog 52 false (.sl true 6 (dl App.d' L)) [.int .i64 L.length, .clo 33 .nil] (fun x' rs => x' = .sl true 6 (dl App.d' (sortA L)) ∧ rs = []) := by
  have hI := insSortA_fn L hlen
  have h1 : decide (20 ≤ (L.length : Int)) = false := decide_eq_false (by omega)
  have h2 : decide (20 < (L.length : Int)) = false := decide_eq_false (by omega)
  refine FnM_of' (fn := f52) (by exact func52) c52 r52 (n := 63) (by rfl) (rv := []) (by rfl) (by decide) (by simp) ?_
  unfold m52
  simp only [↓wA, ↓wC, wB, frzBE, frzBS, Nat.reduceEqDiff, Nat.reduceAdd, Nat.reduceSub, reduceIte, reduceCtorEq, Nat.reduceBEq, Nat.reduceLT, decide_true]
  refine exec_loop (fun _ : Unit => ⟨[(0, .own 0), (1, .d (.int .i64 L.length)), (2, .d (.clo 33 .nil)), (6, .d (.int .i64 20)), (7, .d (.int .i64 0)), (8, .d (.int .i64 20))], [.val (.sl true 6 (dl App.d' L))]⟩) (fun _ => True) (fun _ => 0) () (weak_of _ rfl ⟨⟨rfl, rfl⟩, ⟨rfl, rfl⟩, ⟨rfl, rfl⟩, ⟨rfl, rfl⟩, ⟨rfl, rfl⟩, ⟨rfl, rfl⟩, trivial⟩) trivial ?_
  rintro _ _
  repeat' (first
      | (simp only [h1, ↓wA, ↓wC, wB, frzBE, frzBS, Nat.reduceEqDiff, Nat.reduceAdd, Nat.reduceSub, reduceIte, reduceCtorEq, Nat.reduceBEq, Nat.reduceLT, decide_true])
      | (refine callM_det hI rfl rfl rfl ?_)
      | (refine execG_split (fun h => ?_) (fun h => ?_) <;> simp only [h])
      | (refine execC_split (fun h => ?_) (fun h => ?_) <;> (try simp only [h]))
      | (refine onPick_split (fun h => ?_) (fun h => ?_) <;> (try simp only [h])))
  refine exec_loop (fun _ : Unit => ⟨[(0, .own 0), (1, .d (.int .i64 L.length)), (2, .d (.clo 33 .nil)), (6, .d (.int .i64 20))], [.val (.sl true 6 (dl App.d' (sortA L)))]⟩) (fun _ => True) (fun _ => 0) () (weak_of _ rfl ⟨⟨rfl, rfl⟩, ⟨rfl, rfl⟩, ⟨rfl, rfl⟩, ⟨rfl, rfl⟩, trivial⟩) trivial ?_
  rintro _ _
  repeat' (first
      | (simp only [h2, ↓wA, ↓wC, wB, frzBE, frzBS, Nat.reduceEqDiff, Nat.reduceAdd, Nat.reduceSub, reduceIte, reduceCtorEq, Nat.reduceBEq, Nat.reduceLT, decide_true])
      | (refine execG_split (fun h => ?_) (fun h => ?_) <;> simp only [h])
      | (refine execC_split (fun h => ?_) (fun h => ?_) <;> (try simp only [h]))
      | (refine onPick_split (fun h => ?_) (fun h => ?_) <;> (try simp only [h])))
theorem sortStable_fn (L : List App) (hlen : L.length ≤ 10) : FnM prog 32 false (.sl true 6 (dl App.d' L)) [.clo 33 .nil] (fun x' rs => x' = .sl true 6 (dl App.d' (sortA L)) ∧ rs = []) := by
  have hP := stable_fn L hlen
  refine FnM_of' (fn := f32) (by exact func32) c32 r32 (n := 9) (by rfl) (rv := []) (by rfl) (by decide) (by simp) ?_
  unfold m32
  repeat' (first
      | (simp only [dl_len, ↓wA, ↓wC, wB, frzBE, frzBS, Nat.reduceEqDiff, Nat.reduceAdd, Nat.reduceSub, reduceIte, reduceCtorEq, Nat.reduceBEq, Nat.reduceLT, decide_true])
      | (refine callM_det hP rfl rfl rfl ?_)
      | (refine execG_split (fun h => ?_) (fun h => ?_) <;> simp only [h])
      | (refine execC_split (fun h => ?_) (fun h => ?_) <;> (try simp only [h]))
      | (refine onPick_split (fun h => ?_) (fun h => ?_) <;> (try simp only [h])))
end Go.Pe.Try
