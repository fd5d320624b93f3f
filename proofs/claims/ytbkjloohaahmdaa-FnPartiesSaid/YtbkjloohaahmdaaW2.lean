/- A stable sort of a few appeals by day, walked; Who waits for a party, walked; Who waits for a party, as the reference has it, walked; Elements deleted from an own list of numbers; the parties that were not heard, walked; The parties that an appeal has not heard, walked; What draws: a cursor over bytes; What draws: a number below a bound; What draws: once in n times; one of some numbers; What draws: a day; the parties of an appeal; What draws: an appeal; What draws: a list of appeals; What draws: the id of an appeal; the draws themselves -/
import Derived.Test.YtbkjloohaahmdaaW1
import Derived.Test.YtbkjloohaahmdaaPeD
import Derived.Test.YtbkjloohaahmdaaMc1
import Derived.Test.YtbkjloohaahmdaaMc2
import Derived.Test.YtbkjloohaahmdaaMc3
import Derived.Test.YtbkjloohaahmdaaMc4
set_option maxRecDepth 100000
set_option maxHeartbeats 4000000
set_option linter.all false
namespace Go.Pe.Try
open Go.Proofs.Try
def cmpI (a b : Int) : Int := if a < b then -1 else if b < a then 1 else 0
theorem cmpI_lt (a b : Int) : decide (cmpI a b < 0) = decide (a < b) := by
  unfold cmpI
  split
  · rename_i h; simp [h]
  · rename_i h
    split
    · simp [h]
    · simp [h]
theorem cmpCompare_fn (a b : Int) : Fn prog 91 [.int .i64 a, .int .i64 b] (fun rs => rs = [.int .i64 (cmpI a b)]) := by
  have h1 := isNaN_fn a
  have h2 := isNaN_fn b
  refine Fn_of' (fn := f91) (by exact func91) c91 r91 (n := 20) (by rfl) (rv := [.tmp 4]) (by rfl) (by simp) ?_
  unfold m91
  repeat' (first
      | (simp only [↓wA, ↓wC, wB, frzBE, frzBS, Nat.reduceEqDiff, Nat.reduceAdd, Nat.reduceSub, reduceIte, reduceCtorEq, Nat.reduceBEq, Nat.reduceLT, decide_true])
      | (refine call_det (h1) rfl rfl ?_)
      | (refine callP_det (h1) rfl rfl ?_)
      | (refine call_det (h2) rfl rfl ?_)
      | (refine callP_det (h2) rfl rfl ?_)
      | (refine execG_split (fun h => ?_) (fun h => ?_) <;> simp only [h])
      | (refine execC_split (fun h => ?_) (fun h => ?_) <;> (try simp only [h]))
      | (refine onPick_split (fun h => ?_) (fun h => ?_) <;> (try simp only [h])))
  all_goals (simp_all [cmpI] <;> (repeat' split) <;> omega)
theorem cmpDay_fn (x y : App) : Fn prog 90 [x.d', y.d'] (fun rs => rs = [.int .i64 (cmpI x.d y.d)]) := by
  have h := cmpCompare_fn x.d y.d
  refine Fn_of' (fn := f90) (by exact func90) c90 r90 (n := 10) (by rfl) (rv := [.tmp 4]) (by rfl) (by simp) ?_
  unfold m90
  simp only [App.d']
  repeat' (first
      | (simp only [ints_noOwn, onC_true, ↓wA, ↓wC, wB, frzBE, frzBS, Nat.reduceEqDiff, Nat.reduceAdd, Nat.reduceSub, reduceIte, reduceCtorEq, Nat.reduceBEq, Nat.reduceLT, decide_true])
      | (refine call_det (h) rfl rfl ?_)
      | (refine callP_det (h) rfl rfl ?_)
      | (refine execG_split (fun h => ?_) (fun h => ?_) <;> simp only [h])
      | (refine execC_split (fun h => ?_) (fun h => ?_) <;> (try simp only [h]))
      | (refine onPick_split (fun h => ?_) (fun h => ?_) <;> (try simp only [h])))
def insA (x : App) : List App → List App
  | [] => [x]
  | a :: t => if a.d ≤ x.d then a :: insA x t else x :: a :: t
theorem insA_len (x : App) : ∀ v : List App, (insA x v).length = v.length + 1
  | [] => rfl
  | a :: t => by
    unfold insA
    split
    · simp [insA_len x t]
    · simp
theorem insA_eq {x : App} : ∀ (v : List App) (j : Nat), j ≤ v.length → (∀ m y, m < j → v[m]? = some y → y.d ≤ x.d) → (∀ y, v[j]? = some y → ¬ y.d ≤ x.d) → v.take j ++ x :: v.drop j = insA x v
  | [], j, h, _, _ => by simp [insA]
  | a :: t, 0, _, _, h3 => by
    rw [insA, if_neg (h3 a rfl)]; rfl
  | a :: t, j + 1, h, h2, h3 => by
    rw [insA, if_pos (h2 0 a (by omega) rfl), ← insA_eq t j (by simpa using h) (fun m y hm hy => h2 (m + 1) y (by omega) (by simpa using hy)) (fun y hy => h3 y (by simpa using hy))]
    rfl
def upA (v : List App) : Prop := v.Pairwise (fun a b => a.d ≤ b.d)
theorem insA_mem {x y : App} : ∀ {v : List App}, y ∈ insA x v → y = x ∨ y ∈ v
  | [], h => by simpa [insA] using h
  | a :: t, h => by
    unfold insA at h
    split at h
    · rcases List.mem_cons.1 h with h | h
      · exact .inr (by simp [h])
      · rcases insA_mem h with h | h
        · exact .inl h
        · exact .inr (by simp [h])
    · rcases List.mem_cons.1 h with h | h
      · exact .inl h
      · exact .inr h
theorem insA_up {x : App} : ∀ {v : List App}, upA v → upA (insA x v)
  | [], _ => List.pairwise_singleton _ _
  | a :: t, h => by
    have h := List.pairwise_cons.1 h
    unfold insA
    split
    · rename_i hle
      refine List.pairwise_cons.2 ⟨fun y hy => ?_, insA_up h.2⟩
      rcases insA_mem hy with rfl | hy
      · exact hle
      · exact h.1 y hy
    · rename_i hle
      refine List.pairwise_cons.2 ⟨fun y hy => ?_, List.pairwise_cons.2 h⟩
      rcases List.mem_cons.1 hy with rfl | hy
      · omega
      · have := h.1 y hy
        omega
theorem upA_get : ∀ {v : List App} {m k : Nat} {a b : App}, upA v → m < k → v[m]? = some a → v[k]? = some b → a.d ≤ b.d
  | [], m, k, a, b, _, _, h, _ => by simp at h
  | c :: t, 0, k + 1, a, b, h, _, ha, hb => by
    have h := List.pairwise_cons.1 h
    simp only [List.getElem?_cons_zero, Option.some.injEq] at ha
    subst ha
    exact h.1 b (List.mem_of_getElem? (by simpa using hb))
  | c :: t, m + 1, k + 1, a, b, h, hm, ha, hb => upA_get (m := m) (k := k) (List.pairwise_cons.1 h).2 (by omega) (by simpa using ha) (by simpa using hb)
def sortA (L : List App) : List App := L.foldl (fun acc x => insA x acc) []
theorem sortA_snoc (L : List App) (x : App) : sortA (L ++ [x]) = insA x (sortA L) := by simp [sortA]
theorem sortA_len (L : List App) : (sortA L).length = L.length := by
  have : ∀ (L acc : List App), (L.foldl (fun acc x => insA x acc) acc).length = acc.length + L.length := by
    intro L
    induction L with
    | nil => intro acc; rfl
    | cons a t ih => intro acc; rw [List.foldl_cons, ih, insA_len, List.length_cons]; omega
  rw [sortA, this]; simp
theorem sortA_up (L : List App) : upA (sortA L) := by
  have : ∀ (L acc : List App), upA acc → upA (L.foldl (fun acc x => insA x acc) acc) := by
    intro L
    induction L with
    | nil => intro acc h; exact h
    | cons a t ih => intro acc h; exact ih _ (insA_up h)
  exact this L [] List.Pairwise.nil
def mvA (x : App) (v : List App) (r : List App) (j : Nat) : List App := v.take j ++ x :: (v.drop j ++ r)
theorem mvA_len {x : App} {v r : List App} {j : Nat} (h : j ≤ v.length) : (mvA x v r j).length = v.length + 1 + r.length := by simp [mvA]; omega
theorem mvA_n {x : App} {v r : List App} : mvA x v r v.length = v ++ x :: r := by simp [mvA]
theorem mvA_at {x : App} {v r : List App} {j : Nat} (h : j ≤ v.length) : (mvA x v r j)[j]? = some x := by
  rw [mvA, List.getElem?_append_right (by simp; omega), List.length_take, Nat.min_eq_left h, Nat.sub_self]; rfl
theorem mvA_bf {x y : App} {v r : List App} {k : Nat} (h : v[k]? = some y) : (mvA x v r (k + 1))[k]? = some y := by
  have hk := lt_of_get h
  rw [mvA, List.getElem?_append_left (by simp; omega), List.getElem?_take_of_lt (by omega)]
  exact h
theorem mvA_swap {x y : App} {v r : List App} {k : Nat} (h : v[k]? = some y) : ((mvA x v r (k + 1)).set (k + 1) y).set k x = mvA x v r k := by
  have hk := lt_of_get h
  rw [mvA, take_snoc h, mvA, adrop_get h, List.append_assoc]
  have hl : (v.take k).length = k := by simp; omega
  rw [List.set_append_right _ _ (by omega), hl, show k + 1 - k = 1 by omega, List.set_append_right _ _ (by omega), hl, Nat.sub_self]
  rfl
theorem mvA_ins {x : App} {v r : List App} {j : Nat} (h : v.take j ++ x :: v.drop j = insA x v) : mvA x v r j = insA x v ++ r := by
  rw [← h, mvA]; simp
theorem insSortA_fn (L : List App) (hlen : L.length ≤ 10) : FnM prog 138 false (.sl true 6 (dl App.d' L)) [.int .i64 0, .int .i64 L.length, .clo 90 .nil] (fun x' rs => x' = .sl true 6 (dl App.d' (sortA L)) ∧ rs = []) := by
  have hen := en90
  refine FnM_of' (fn := f138) (by exact func138) c138 r138 (n := 53) (by rfl) (rv := []) (by rfl) (by decide) (by simp) ?_
  unfold m138
  simp only [↓wA, ↓wC, wB, frzBE, frzBS, Nat.reduceEqDiff, Nat.reduceAdd, Nat.reduceSub, reduceIte, reduceCtorEq, Nat.reduceBEq, Nat.reduceLT, decide_true]
  refine onI_bare (by simp only [InR]; omega) ?_
  refine exec_loop (fun i : Nat => ⟨[(0, .own 0), (1, .d (.int .i64 0)), (2, .d (.int .i64 L.length)), (3, .d (.clo 90 .nil)), (8, .d (.int .i64 i))], [.val (.sl true 6 (dl App.d' (sortA (L.take i) ++ L.drop i)))]⟩) (fun i => 1 ≤ i ∧ i ≤ L.length + 1) (fun i => L.length + 1 - i) 1 ?_ ⟨by omega, by omega⟩ ?_
  · have e : sortA (L.take 1) ++ L.drop 1 = L := by
      cases L with
      | nil => rfl
      | cons a t => rfl
    rw [e]
    exact (weak_of _ rfl ⟨⟨rfl, rfl⟩, ⟨rfl, rfl⟩, ⟨rfl, rfl⟩, ⟨rfl, rfl⟩, ⟨rfl, rfl⟩, trivial⟩)
  rintro i ⟨hi1, hi2⟩
  by_cases hlt : i < L.length
  · have hd : decide ((i : Int) < (L.length : Int)) = true := decide_eq_true (by omega)
    obtain ⟨x, hx⟩ := get_lt hlt
    have hvl : (sortA (L.take i)).length = i := by rw [sortA_len]; simp; omega
    have hup := sortA_up (L.take i)
    have hsn : sortA (L.take (i + 1)) = insA x (sortA (L.take i)) := by rw [take_snoc hx, sortA_snoc]
    rw [adrop_get hx]
    generalize hv : sortA (L.take i) = v at hvl hup hsn ⊢
    generalize hrr : L.drop (i + 1) = r
    have hrl : v.length + 1 + r.length = L.length := by rw [hvl, ← hrr]; simp; omega
    subst hvl
    simp only [hd, ↓wA, ↓wC, wB, frzBE, frzBS, Nat.reduceEqDiff, Nat.reduceAdd, Nat.reduceSub, reduceIte, reduceCtorEq, Nat.reduceBEq, Nat.reduceLT, decide_true]
    refine exec_loop (fun j : Nat => ⟨[(0, .own 0), (1, .d (.int .i64 0)), (2, .d (.int .i64 L.length)), (3, .d (.clo 90 .nil)), (8, .d (.int .i64 (v.length : Int))), (9, .d (.int .i64 j))], [.val (.sl true 6 (dl App.d' (mvA x v r j)))]⟩) (fun j => j ≤ v.length ∧ ∀ y, v[j]? = some y → ¬ y.d ≤ x.d) (fun j => j) v.length ?_ ⟨Nat.le_refl _, fun y hy => absurd (lt_of_get hy) (by omega)⟩ ?_
    · rw [mvA_n]; exact (weak_of _ rfl ⟨⟨rfl, rfl⟩, ⟨rfl, rfl⟩, ⟨rfl, rfl⟩, ⟨rfl, rfl⟩, ⟨rfl, rfl⟩, ⟨rfl, rfl⟩, trivial⟩)
    rintro j ⟨hj, hjx⟩
    cases j with
    | zero =>
      have hf := mvA_ins (r := r) (insA_eq v 0 hj (fun m y hm _ => by omega) hjx)
      have h1 : decide (0 < ((0 : Nat) : Int)) = false := rfl
      repeat' (first
          | (simp only [h1, ↓wA, ↓wC, wB, frzBE, frzBS, Nat.reduceEqDiff, Nat.reduceAdd, Nat.reduceSub, reduceIte, reduceCtorEq, Nat.reduceBEq, Nat.reduceLT, decide_true])
          | (with_reducible refine onI_bare ?_ ?_; focus (simp only [InR]; omega))
          | (refine execG_split (fun h => ?_) (fun h => ?_) <;> simp only [h])
          | (refine execC_split (fun h => ?_) (fun h => ?_) <;> (try simp only [h]))
          | (refine onPick_split (fun h => ?_) (fun h => ?_) <;> (try simp only [h])))
      refine ⟨v.length + 1, ?_, ⟨by omega, by omega⟩, by omega⟩
      rw [hsn, hrr, ← hf]
      exact (weak_of _ rfl ⟨⟨rfl, rfl⟩, ⟨rfl, rfl⟩, ⟨rfl, rfl⟩, ⟨rfl, rfl⟩, ⟨rfl, rfl⟩, trivial⟩)
    | succ k =>
      obtain ⟨y, hy⟩ := get_lt (show k < v.length by omega)
      have h1 : decide (0 < ((k + 1 : Nat) : Int)) = true := decide_eq_true (by omega)
      have hn1 : (((k + 1 : Nat) : Int) - 1).toNat = k := by omega
      have h0 : (0 : Int) ≤ ((k + 1 : Nat) : Int) := by omega
      have h0' : (0 : Int) ≤ ((k + 1 : Nat) : Int) - 1 := by omega
      have hg1 := mvA_at (x := x) (r := r) hj
      have hg2 := mvA_bf (x := x) (r := r) hy
      have hml := mvA_len (x := x) (r := r) hj
      have hs1 : ((dl App.d' (mvA x v r (k + 1))).setN (k + 1) y.d') = dl App.d' ((mvA x v r (k + 1)).set (k + 1) y) := dl_setN _ _ y
      have hs2 : ((dl App.d' ((mvA x v r (k + 1)).set (k + 1) y)).setN k x.d') = dl App.d' (mvA x v r k) := (dl_setN _ _ x).trans (by rw [mvA_swap hy])
      have hg3 : ((mvA x v r (k + 1)).set (k + 1) y)[k]? = some y := by rw [List.getElem?_set_ne (by omega)]; exact hg2
      have hq := cmpI_lt x.d y.d
      cases hc : decide (x.d < y.d) with
      | false =>
        rw [hc] at hq
        have hf := mvA_ins (r := r) (insA_eq v (k + 1) hj (fun m z hm hz => by
          have hc' := of_decide_eq_false hc
          by_cases e : m = k
          · subst e
            rw [hy] at hz
            injection hz with hz
            rw [← hz]
            omega
          · have := upA_get hup (show m < k by omega) hz hy
            omega) hjx)
        repeat' (first
            | (simp only [dl_len, hml, h1, hq, hn1, h0, h0', dl_nth, hg1, hg2, Option.map_some, onC_true, Int.toNat_natCast, ↓rd_app, oa_size, oa_isV, App.noOwn, ↓wA, ↓wC, wB, frzBE, frzBS, Nat.reduceEqDiff, Nat.reduceAdd, Nat.reduceSub, reduceIte, reduceCtorEq, Nat.reduceBEq, Nat.reduceLT, decide_true])
            | (refine callV_det (cmpDay_fn _ _) hen rfl rfl rfl ?_)
            | (with_reducible refine onI_bare ?_ ?_; focus (simp only [InR]; omega))
            | (refine execG_split (fun h => ?_) (fun h => ?_) <;> simp only [h])
            | (refine execC_split (fun h => ?_) (fun h => ?_) <;> (try simp only [h]))
            | (refine onPick_split (fun h => ?_) (fun h => ?_) <;> (try simp only [h])))
        refine ⟨v.length + 1, ?_, ⟨by omega, by omega⟩, by omega⟩
        rw [hsn, hrr, ← hf]
        exact (weak_of _ rfl ⟨⟨rfl, rfl⟩, ⟨rfl, rfl⟩, ⟨rfl, rfl⟩, ⟨rfl, rfl⟩, ⟨rfl, rfl⟩, trivial⟩)
      | true =>
        rw [hc] at hq
        repeat' (first
            | (simp only [dl_len, hml, h1, hq, hn1, h0, h0', dl_nth, hg1, hg2, hg3, hs1, hs2, setN_len, List.length_set, Option.map_some, onC_true, Int.toNat_natCast, ↓rd_app, oa_size, oa_isV, App.noOwn, ↓wA, ↓wC, wB, frzBE, frzBS, Nat.reduceEqDiff, Nat.reduceAdd, Nat.reduceSub, reduceIte, reduceCtorEq, Nat.reduceBEq, Nat.reduceLT, decide_true])
            | (refine callV_det (cmpDay_fn _ _) hen rfl rfl rfl ?_)
            | (refine onJ_q ?_)
            | (with_reducible refine onI_bare ?_ ?_; focus (simp only [InR]; omega))
            | (refine execG_split (fun h => ?_) (fun h => ?_) <;> simp only [h])
            | (refine execC_split (fun h => ?_) (fun h => ?_) <;> (try simp only [h]))
            | (refine onPick_split (fun h => ?_) (fun h => ?_) <;> (try simp only [h])))
        rw [show ((k + 1 : Nat) : Int) - 1 = (k : Int) by omega]
        refine ⟨k, (weak_of _ rfl ⟨⟨rfl, rfl⟩, ⟨rfl, rfl⟩, ⟨rfl, rfl⟩, ⟨rfl, rfl⟩, ⟨rfl, rfl⟩, ⟨rfl, rfl⟩, trivial⟩), ⟨by omega, fun z hz => ?_⟩, by omega⟩
        rw [hy] at hz
        injection hz with hz
        rw [← hz]
        have := of_decide_eq_true hc
        omega
  · have hd : decide ((i : Int) < (L.length : Int)) = false := decide_eq_false (by omega)
    have e : sortA (L.take i) ++ L.drop i = sortA L := by
      rw [List.take_of_length_le (by omega), List.drop_eq_nil_of_le (by omega), List.append_nil]
    rw [e]
    simp only [hd, ↓wA, ↓wC, wB, frzBE, frzBS, Nat.reduceEqDiff, Nat.reduceAdd, Nat.reduceSub, reduceIte, reduceCtorEq, Nat.reduceBEq, Nat.reduceLT, decide_true]
theorem stable_fn (L : List App) (hlen : L.length ≤ 10) : FnM prog 129 false (.sl true 6 (dl App.d' L)) [.int .i64 L.length, .clo 90 .nil] (fun x' rs => x' = .sl true 6 (dl App.d' (sortA L)) ∧ rs = []) := by
  have hI := insSortA_fn L hlen
  have h1 : decide (20 ≤ (L.length : Int)) = false := decide_eq_false (by omega)
  have h2 : decide (20 < (L.length : Int)) = false := decide_eq_false (by omega)
  refine FnM_of' (fn := f129) (by exact func129) c129 r129 (n := 63) (by rfl) (rv := []) (by rfl) (by decide) (by simp) ?_
  unfold m129
  simp only [↓wA, ↓wC, wB, frzBE, frzBS, Nat.reduceEqDiff, Nat.reduceAdd, Nat.reduceSub, reduceIte, reduceCtorEq, Nat.reduceBEq, Nat.reduceLT, decide_true]
  refine exec_loop (fun _ : Unit => ⟨[(0, .own 0), (1, .d (.int .i64 L.length)), (2, .d (.clo 90 .nil)), (6, .d (.int .i64 20)), (7, .d (.int .i64 0)), (8, .d (.int .i64 20))], [.val (.sl true 6 (dl App.d' L))]⟩) (fun _ => True) (fun _ => 0) () (weak_of _ rfl ⟨⟨rfl, rfl⟩, ⟨rfl, rfl⟩, ⟨rfl, rfl⟩, ⟨rfl, rfl⟩, ⟨rfl, rfl⟩, ⟨rfl, rfl⟩, trivial⟩) trivial ?_
  rintro _ _
  repeat' (first
      | (simp only [h1, ↓wA, ↓wC, wB, frzBE, frzBS, Nat.reduceEqDiff, Nat.reduceAdd, Nat.reduceSub, reduceIte, reduceCtorEq, Nat.reduceBEq, Nat.reduceLT, decide_true])
      | (refine callM_det hI rfl rfl rfl ?_)
      | (refine execG_split (fun h => ?_) (fun h => ?_) <;> simp only [h])
      | (refine execC_split (fun h => ?_) (fun h => ?_) <;> (try simp only [h]))
      | (refine onPick_split (fun h => ?_) (fun h => ?_) <;> (try simp only [h])))
  refine exec_loop (fun _ : Unit => ⟨[(0, .own 0), (1, .d (.int .i64 L.length)), (2, .d (.clo 90 .nil)), (6, .d (.int .i64 20))], [.val (.sl true 6 (dl App.d' (sortA L)))]⟩) (fun _ => True) (fun _ => 0) () (weak_of _ rfl ⟨⟨rfl, rfl⟩, ⟨rfl, rfl⟩, ⟨rfl, rfl⟩, ⟨rfl, rfl⟩, trivial⟩) trivial ?_
  rintro _ _
  repeat' (first
      | (simp only [h2, ↓wA, ↓wC, wB, frzBE, frzBS, Nat.reduceEqDiff, Nat.reduceAdd, Nat.reduceSub, reduceIte, reduceCtorEq, Nat.reduceBEq, Nat.reduceLT, decide_true])
      | (refine execG_split (fun h => ?_) (fun h => ?_) <;> simp only [h])
      | (refine execC_split (fun h => ?_) (fun h => ?_) <;> (try simp only [h]))
      | (refine onPick_split (fun h => ?_) (fun h => ?_) <;> (try simp only [h])))
theorem sortStable_fn (L : List App) (hlen : L.length ≤ 10) : FnM prog 89 false (.sl true 6 (dl App.d' L)) [.clo 90 .nil] (fun x' rs => x' = .sl true 6 (dl App.d' (sortA L)) ∧ rs = []) := by
  have hP := stable_fn L hlen
  refine FnM_of' (fn := f89) (by exact func89) c89 r89 (n := 9) (by rfl) (rv := []) (by rfl) (by decide) (by simp) ?_
  unfold m89
  repeat' (first
      | (simp only [dl_len, ↓wA, ↓wC, wB, frzBE, frzBS, Nat.reduceEqDiff, Nat.reduceAdd, Nat.reduceSub, reduceIte, reduceCtorEq, Nat.reduceBEq, Nat.reduceLT, decide_true])
      | (refine callM_det hP rfl rfl rfl ?_)
      | (refine execG_split (fun h => ?_) (fun h => ?_) <;> simp only [h])
      | (refine execC_split (fun h => ?_) (fun h => ?_) <;> (try simp only [h]))
      | (refine onPick_split (fun h => ?_) (fun h => ?_) <;> (try simp only [h])))
end Go.Pe.Try

set_option maxRecDepth 100000
set_option maxHeartbeats 4000000
set_option linter.all false
namespace Go.Pe.Try
open Go.Proofs.Try
def waitL (xs : List App) (p : Int) : List App := xs.filter (fun x => waitA x p)
def waitIds (xs : List App) (p : Int) : List Int := (sortA (waitL xs p)).map App.i
def waitOK (xs : List App) (p : Int) : Bool := goodA xs && within p 1 50
def waitR (xs : List App) (p : Int) : List D := if waitOK xs p = true then [.sl true 1 (dl iD (waitIds xs p)), .bool true] else [.sl true 1 .nil, .bool false]
theorem waitL_snoc {xs : List App} {p : Int} {i : Nat} {x : App} (hr : xs[i]? = some x) : waitL (xs.take (i + 1)) p = waitL (xs.take i) p ++ (if waitA x p = true then [x] else []) := by
  rw [take_snoc hr, waitL, waitL, List.filter_append]
  congr 1
  by_cases h : waitA x p = true
  · simp [h]
  · simp [h]
theorem waitL_len (xs : List App) (p : Int) : (waitL xs p).length ≤ xs.length := List.length_filter_le _ _
theorem waitFor_fn (xs : List App) (p : Int) (hlen : xs.length ≤ 1048576) (hx : ∀ x ∈ xs, x.ok0) : Fn prog 33 [.sl false 6 (appsD xs), .int .i64 p] (fun rs => rs = waitR xs p) := by
  have hG := areAppeals_fn xs hlen hx
  have hP := isParty_fn p
  unfold waitR waitOK
  cases hg : goodA xs with
  | false =>
    rw [hg] at hG
    refine Fn_of' (fn := f33) (by exact func33) c33 r33 (n := 49) (by rfl) (rv := [.tmp 4, .tmp 5]) (by rfl) (by simp) ?_
    unfold m33
    repeat' (first
        | (simp only [↓wA, ↓wC, wB, frzBE, frzBS, Nat.reduceEqDiff, Nat.reduceAdd, Nat.reduceSub, reduceIte, reduceCtorEq, Nat.reduceBEq, Nat.reduceLT, decide_true])
        | (refine call_det (hG) rfl rfl ?_)
        | (refine callP_det (hG) rfl rfl ?_)
        | (refine call_det (hP) rfl rfl ?_)
        | (refine callP_det (hP) rfl rfl ?_)
        | (refine execG_split (fun h => ?_) (fun h => ?_) <;> simp only [h])
        | (refine execC_split (fun h => ?_) (fun h => ?_) <;> (try simp only [h]))
        | (refine onPick_split (fun h => ?_) (fun h => ?_) <;> (try simp only [h])))
    refine take_nil 1 ?_
    simp
  | true =>
    rw [hg] at hG
    cases hp : within p 1 50 with
    | false =>
      rw [hp] at hP
      refine Fn_of' (fn := f33) (by exact func33) c33 r33 (n := 49) (by rfl) (rv := [.tmp 4, .tmp 5]) (by rfl) (by simp) ?_
      unfold m33
      repeat' (first
          | (simp only [↓wA, ↓wC, wB, frzBE, frzBS, Nat.reduceEqDiff, Nat.reduceAdd, Nat.reduceSub, reduceIte, reduceCtorEq, Nat.reduceBEq, Nat.reduceLT, decide_true])
          | (refine call_det (hG) rfl rfl ?_)
          | (refine callP_det (hG) rfl rfl ?_)
          | (refine call_det (hP) rfl rfl ?_)
          | (refine callP_det (hP) rfl rfl ?_)
          | (refine execG_split (fun h => ?_) (fun h => ?_) <;> simp only [h])
          | (refine execC_split (fun h => ?_) (fun h => ?_) <;> (try simp only [h]))
          | (refine onPick_split (fun h => ?_) (fun h => ?_) <;> (try simp only [h])))
      refine take_nil 1 ?_
      simp
    | true =>
      rw [hp] at hP
      have hl10 := (goodA_ok hg).1
      have hwl := waitL_len xs p
      have hSo := sortStable_fn (waitL xs p) (by omega)
      have hsl := sortA_len (waitL xs p)
      have happ : ∀ (V : List App) (x : App), (dl App.d' V).app (D.cons x.d' .nil) = dl App.d' (V ++ [x]) := fun V x => app_one V x
      have hdo0 : ∀ y : App, doff [0] y.d' = 0 := fun y => by simp [App.d', doff, D.pre, D.nth, D.size]
      have hdg0 : ∀ y : App, dget [0] y.d' = some (.int .i64 y.i) := fun y => rfl
      refine Fn_of' (fn := f33) (by exact func33) c33 r33 (n := 49) (by rfl) (rv := [.tmp 4, .tmp 5]) (by rfl) (by simp) ?_
      unfold m33
      repeat' (first
          | (simp only [dl_len, ↓wA, ↓wC, wB, frzBE, frzBS, Nat.reduceEqDiff, Nat.reduceAdd, Nat.reduceSub, reduceIte, reduceCtorEq, Nat.reduceBEq, Nat.reduceLT, decide_true])
          | (refine call_det (hG) rfl rfl ?_)
          | (refine callP_det (hG) rfl rfl ?_)
          | (refine call_det (hP) rfl rfl ?_)
          | (refine callP_det (hP) rfl rfl ?_)
          | (refine execG_split (fun h => ?_) (fun h => ?_) <;> simp only [h])
          | (refine execC_split (fun h => ?_) (fun h => ?_) <;> (try simp only [h]))
          | (refine onPick_split (fun h => ?_) (fun h => ?_) <;> (try simp only [h])))
      refine exec_rangeN [(6, 6)] xs.length (fun i : Nat => ⟨[(1, .d (.int .i64 p)), (6, .own 0), (20, .d (.sl false 6 (appsD xs))), (21, .d (.int .i64 xs.length)), (22, .d (.int .i64 i))], [.val (.sl true 6 (dl App.d' (waitL (xs.take i) p)))]⟩) (fun _ => True) ⟨rfl, trivial⟩ ?_ trivial ?_ ?_
      · exact (weak_of _ rfl ⟨⟨rfl, rfl⟩, ⟨rfl, rfl⟩, ⟨rfl, rfl⟩, ⟨rfl, rfl⟩, ⟨rfl, rfl⟩, trivial⟩)
      · intro i hlt _ hd h0
        obtain ⟨x, hr⟩ := get_lt hlt
        have hm := List.mem_of_getElem? hr
        have hW := waits_fn x p (hx x hm)
        have hW' : Fn prog 88 [x.d'.unown, .int .i64 p] (fun rs => rs = [.bool (waitA x p)]) := by rw [App.unown]; exact hW
        have hsn := waitL_snoc (p := p) hr
        have hvl : (waitL (xs.take i) p).length ≤ 10 := Nat.le_trans (waitL_len _ _) (by simp; omega)
        cases hw : waitA x p with
        | false =>
          rw [hw] at hW hW' hsn
          repeat' (first
              | (simp only [dl_len, hd, h0, dl_nth, Int.toNat_natCast, hr, Option.map_some, onC_true, ↓rd_app, oa_size, oa_isV, App.noOwn, ↓wA, ↓wC, wB, frzBE, frzBS, Nat.reduceEqDiff, Nat.reduceAdd, Nat.reduceSub, reduceIte, reduceCtorEq, Nat.reduceBEq, Nat.reduceLT, decide_true])
              | (refine call_det (hW) rfl rfl ?_)
              | (refine callP_det (hW) rfl rfl ?_)
              | (refine call_det (hW') rfl rfl ?_)
              | (refine callP_det (hW') rfl rfl ?_)
              | (with_reducible refine onI_bare ?_ ?_; focus (simp only [InR]; omega))
              | (refine execG_split (fun h => ?_) (fun h => ?_) <;> simp only [h])
              | (refine execC_split (fun h => ?_) (fun h => ?_) <;> (try simp only [h]))
              | (refine onPick_split (fun h => ?_) (fun h => ?_) <;> (try simp only [h])))
          refine ⟨i + 1, ?_, by omega, by omega⟩
          rw [hsn]
          simp only [Bool.false_eq_true, if_false, List.append_nil]
          exact (weak_of _ rfl ⟨⟨rfl, rfl⟩, ⟨rfl, rfl⟩, ⟨rfl, rfl⟩, ⟨rfl, rfl⟩, ⟨rfl, rfl⟩, trivial⟩)
        | true =>
          rw [hw] at hW hW' hsn
          repeat' (first
              | (simp only [dl_len, hd, h0, dl_nth, Int.toNat_natCast, hr, Option.map_some, onC_true, ↓rd_app, oa_size, oa_isV, App.noOwn, happ, ↓wA, ↓wC, wB, frzBE, frzBS, Nat.reduceEqDiff, Nat.reduceAdd, Nat.reduceSub, reduceIte, reduceCtorEq, Nat.reduceBEq, Nat.reduceLT, decide_true])
              | (refine call_det (hW) rfl rfl ?_)
              | (refine callP_det (hW) rfl rfl ?_)
              | (refine call_det (hW') rfl rfl ?_)
              | (refine callP_det (hW') rfl rfl ?_)
              | (with_reducible refine onI_bare ?_ ?_; focus (simp only [InR]; omega))
              | (with_reducible refine onC_i ?_ ?_; focus omega)
              | (with_reducible refine onC_i ?_ ?_; focus (simp; done))
              | (refine execG_split (fun h => ?_) (fun h => ?_) <;> simp only [h])
              | (refine execC_split (fun h => ?_) (fun h => ?_) <;> (try simp only [h]))
              | (refine onPick_split (fun h => ?_) (fun h => ?_) <;> (try simp only [h])))
          refine ⟨i + 1, ?_, by omega, by omega⟩
          rw [hsn]
          simp only [if_true]
          exact (weak_of _ rfl ⟨⟨rfl, rfl⟩, ⟨rfl, rfl⟩, ⟨rfl, rfl⟩, ⟨rfl, rfl⟩, ⟨rfl, rfl⟩, trivial⟩)
      · intro _ hd
        have e1 : xs.take xs.length = xs := List.take_length
        rw [e1]
        repeat' (first
            | (simp only [hd, dl_len, ↓wA, ↓wC, wB, frzBE, frzBS, Nat.reduceEqDiff, Nat.reduceAdd, Nat.reduceSub, reduceIte, reduceCtorEq, Nat.reduceBEq, Nat.reduceLT, decide_true])
            | (refine callM_det hSo rfl rfl rfl ?_)
            | (refine execG_split (fun h => ?_) (fun h => ?_) <;> simp only [h])
            | (refine execC_split (fun h => ?_) (fun h => ?_) <;> (try simp only [h]))
            | (refine onPick_split (fun h => ?_) (fun h => ?_) <;> (try simp only [h])))
        generalize hL : sortA (waitL xs p) = L at hsl
        have hLi : waitIds xs p = L.map App.i := by rw [waitIds, hL]
        refine exec_rangeN [(9, 1)] L.length (fun i : Nat => ⟨[(9, .own 1), (36, .own 0), (37, .d (.int .i64 L.length)), (38, .d (.int .i64 i))], [.val (.sl true 6 (dl App.d' L)), .val (.sl true 1 (dl iD ((L.take i).map App.i)))]⟩) (fun _ => True) ⟨rfl, trivial⟩ ?_ trivial ?_ ?_
        · exact (weak_of _ rfl ⟨⟨rfl, rfl⟩, ⟨rfl, rfl⟩, ⟨rfl, rfl⟩, ⟨rfl, rfl⟩, trivial⟩)
        · intro i hlt _ hd h0
          obtain ⟨x, hr⟩ := get_lt hlt
          have hsn : (L.take (i + 1)).map App.i = (L.take i).map App.i ++ [x.i] := by rw [take_snoc hr, List.map_append]; rfl
          have hvl : ((L.take i).map App.i).length ≤ 10 := by simp; omega
          repeat' (first
              | (simp only [dl_len, hd, h0, dl_nth, Int.toNat_natCast, hr, Option.map_some, onC_true, ↓rd_app, oa_size, oa_isV, App.noOwn, app_int, hdo0, hdg0, ↓wA, ↓wC, wB, frzBE, frzBS, Nat.reduceEqDiff, Nat.reduceAdd, Nat.reduceSub, reduceIte, reduceCtorEq, Nat.reduceBEq, Nat.reduceLT, decide_true])
              | (with_reducible refine onI_bare ?_ ?_; focus (simp only [InR]; omega))
              | (with_reducible refine onC_i ?_ ?_; focus omega)
              | (with_reducible refine onC_i ?_ ?_; focus (simp; done))
              | (refine execG_split (fun h => ?_) (fun h => ?_) <;> simp only [h])
              | (refine execC_split (fun h => ?_) (fun h => ?_) <;> (try simp only [h]))
              | (refine onPick_split (fun h => ?_) (fun h => ?_) <;> (try simp only [h])))
          refine ⟨i + 1, ?_, by omega, by omega⟩
          rw [hsn]
          exact (weak_of _ rfl ⟨⟨rfl, rfl⟩, ⟨rfl, rfl⟩, ⟨rfl, rfl⟩, ⟨rfl, rfl⟩, trivial⟩)
        · intro _ hd
          have e2 : L.take L.length = L := List.take_length
          rw [e2]
          repeat' (first
              | (simp only [hd, ↓wA, ↓wC, wB, frzBE, frzBS, Nat.reduceEqDiff, Nat.reduceAdd, Nat.reduceSub, reduceIte, reduceCtorEq, Nat.reduceBEq, Nat.reduceLT, decide_true])
              | (refine execG_split (fun h => ?_) (fun h => ?_) <;> simp only [h])
              | (refine execC_split (fun h => ?_) (fun h => ?_) <;> (try simp only [h]))
              | (refine onPick_split (fun h => ?_) (fun h => ?_) <;> (try simp only [h])))
          rw [hLi]
end Go.Pe.Try

set_option maxRecDepth 100000
set_option maxHeartbeats 4000000
set_option linter.all false
namespace Go.Pe.Try
open Go.Proofs.Try
theorem frzV {s : St} (q : Nat) {x : D} (hq : s.o[q]? = some (.val x)) : Weak s ⟨frzE q x.unown s.e, s.o.set q .dead⟩ := by
  intro c C a w hr
  have h := frz1_sound q hr
  have e : frz1 q s = ⟨frzE q x.unown s.e, s.o.set q .dead⟩ := frz1_val (e := s.e) hq
  rw [e] at h
  exact h
theorem l24Party_fn (n : Int) : Fn prog 92 [.int .i64 n] (fun rs => rs = [.bool (within n 1 50)]) := by
  have h := l1In_fn n 1 50
  refine Fn_of' (fn := f92) (by exact func92) c92 r92 (n := 5) (by rfl) (rv := [.tmp 2]) (by rfl) (by simp) ?_
  unfold m92
  repeat' (first
      | (simp only [↓wA, ↓wC, wB, frzBE, frzBS, Nat.reduceEqDiff, Nat.reduceAdd, Nat.reduceSub, reduceIte, reduceCtorEq, Nat.reduceBEq, Nat.reduceLT, decide_true])
      | (refine call_det (h) rfl rfl ?_)
      | (refine callP_det (h) rfl rfl ?_)
      | (refine execG_split (fun h => ?_) (fun h => ?_) <;> simp only [h])
      | (refine execC_split (fun h => ?_) (fun h => ?_) <;> (try simp only [h]))
      | (refine onPick_split (fun h => ?_) (fun h => ?_) <;> (try simp only [h])))
theorem specWait_fn (xs : List App) (p : Int) (hlen : xs.length ≤ 1048576) (hx : ∀ x ∈ xs, x.ok0) : Fn prog 34 [.sl false 6 (appsD xs), .int .i64 p] (fun rs => rs = waitR xs p) := by
  have hG := l24Good_fn xs hlen hx
  have hP := l24Party_fn p
  unfold waitR waitOK
  cases hg : goodA xs with
  | false =>
    rw [hg] at hG
    refine Fn_of' (fn := f34) (by exact func34) c34 r34 (n := 93) (by rfl) (rv := [.tmp 4, .tmp 5]) (by rfl) (by simp) ?_
    unfold m34
    repeat' (first
        | (simp only [↓wA, ↓wC, wB, frzBE, frzBS, Nat.reduceEqDiff, Nat.reduceAdd, Nat.reduceSub, reduceIte, reduceCtorEq, Nat.reduceBEq, Nat.reduceLT, decide_true])
        | (refine call_det (hG) rfl rfl ?_)
        | (refine callP_det (hG) rfl rfl ?_)
        | (refine call_det (hP) rfl rfl ?_)
        | (refine callP_det (hP) rfl rfl ?_)
        | (refine execG_split (fun h => ?_) (fun h => ?_) <;> simp only [h])
        | (refine execC_split (fun h => ?_) (fun h => ?_) <;> (try simp only [h]))
        | (refine onPick_split (fun h => ?_) (fun h => ?_) <;> (try simp only [h])))
    all_goals rfl
  | true =>
    rw [hg] at hG
    cases hp : within p 1 50 with
    | false =>
      rw [hp] at hP
      refine Fn_of' (fn := f34) (by exact func34) c34 r34 (n := 93) (by rfl) (rv := [.tmp 4, .tmp 5]) (by rfl) (by simp) ?_
      unfold m34
      repeat' (first
          | (simp only [↓wA, ↓wC, wB, frzBE, frzBS, Nat.reduceEqDiff, Nat.reduceAdd, Nat.reduceSub, reduceIte, reduceCtorEq, Nat.reduceBEq, Nat.reduceLT, decide_true])
          | (refine call_det (hG) rfl rfl ?_)
          | (refine callP_det (hG) rfl rfl ?_)
          | (refine call_det (hP) rfl rfl ?_)
          | (refine callP_det (hP) rfl rfl ?_)
          | (refine execG_split (fun h => ?_) (fun h => ?_) <;> simp only [h])
          | (refine execC_split (fun h => ?_) (fun h => ?_) <;> (try simp only [h]))
          | (refine onPick_split (fun h => ?_) (fun h => ?_) <;> (try simp only [h])))
      all_goals rfl
    | true =>
      rw [hp] at hP
      have hl10 := (goodA_ok hg).1
      have hdo5 : ∀ y : App, doff [5] y.d' = 5 := fun y => by simp [App.d', doff, D.pre, D.nth, D.size]
      have hdo3 : ∀ y : App, doff [3] y.d' = 3 := fun y => by simp [App.d', doff, D.pre, D.nth, D.size]
      have hdo4 : ∀ y : App, doff [4] y.d' = 4 := fun y => by simp [App.d', doff, D.pre, D.nth, D.size]
      have hdo2 : ∀ y : App, doff [2] y.d' = 2 := fun y => by simp [App.d', doff, D.pre, D.nth, D.size]
      have hdg5 : ∀ y : App, dget [5] y.d' = some (.int .i64 y.s) := fun y => rfl
      have hdg3 : ∀ y : App, dget [3] y.d' = some (.sl false 1 (dl iD y.a)) := fun y => rfl
      have hdg4 : ∀ y : App, dget [4] y.d' = some (.sl false 1 (dl iD y.h)) := fun y => rfl
      have hdg2 : ∀ y : App, dget [2] y.d' = some (.int .i64 y.d) := fun y => rfl
      have happ : ∀ (V : List App) (x : App), (dl App.d' V).app (D.cons x.d' .nil) = dl App.d' (V ++ [x]) := fun V x => app_one V x
      refine Fn_ofg (ps := [[1, 1, 1, 1, 0, 1, 0, 0, 1, 1], [1, 1, 1, 1, 0, 1, 0]]) (fn := f34) (by exact func34) c34 r34 (n := 93) (by rfl) (rv := [.tmp 4, .tmp 5]) (by rfl) (by simp) ?_
      unfold m34
      simp only [ghAll, ghAt]
      repeat' (first
          | (simp only [dl_len, ↓wA, ↓wC, wB, frzBE, frzBS, Nat.reduceEqDiff, Nat.reduceAdd, Nat.reduceSub, reduceIte, reduceCtorEq, Nat.reduceBEq, Nat.reduceLT, decide_true])
          | (refine call_det (hG) rfl rfl ?_)
          | (refine callP_det (hG) rfl rfl ?_)
          | (refine call_det (hP) rfl rfl ?_)
          | (refine callP_det (hP) rfl rfl ?_)
          | (refine execG_split (fun h => ?_) (fun h => ?_) <;> simp only [h])
          | (refine execC_split (fun h => ?_) (fun h => ?_) <;> (try simp only [h]))
          | (refine onPick_split (fun h => ?_) (fun h => ?_) <;> (try simp only [h])))
      refine exec_gh1 (frzV 1 rfl) ?_
      simp only [D.unown, ↓wA, ↓wC, wB, frzBE, frzBS, Nat.reduceEqDiff, Nat.reduceAdd, Nat.reduceSub, reduceIte, reduceCtorEq, Nat.reduceBEq, Nat.reduceLT, decide_true]
      refine exec_range xs.length (fun i : Nat => ⟨[(0, .d (.sl false 6 (appsD xs))), (1, .d (.int .i64 p)), (6, .own 0), (7, .d (.sl false 6 (dl App.d' (sortA (waitL (xs.take i) p))))), (8, .d (.int .i64 i))], [.val (.sl true 1 .nil)]⟩) (fun _ => True) (weak_of _ rfl ⟨⟨rfl, rfl⟩, ⟨rfl, rfl⟩, ⟨rfl, rfl⟩, ⟨rfl, rfl⟩, ⟨rfl, rfl⟩, trivial⟩) trivial ?_ ?_
      · intro i hlt _ hd h0
        obtain ⟨x, hr⟩ := get_lt hlt
        have hm := List.mem_of_getElem? hr
        have hA := l1Has_fn x.a p (hx x hm).1
        have hH := l1Has_fn x.h p (hx x hm).2
        have hsn := waitL_snoc (p := p) hr
        have hvl : (sortA (waitL (xs.take i) p)).length ≤ 10 := by rw [sortA_len]; exact Nat.le_trans (waitL_len _ _) (by simp; omega)
        have hup := sortA_up (waitL (xs.take i) p)
        have skip : waitA x p = false → waitL (xs.take (i + 1)) p = waitL (xs.take i) p := fun h => by rw [hsn, h]; simp
        have took : waitA x p = true → sortA (waitL (xs.take (i + 1)) p) = insA x (sortA (waitL (xs.take i) p)) := fun h => by rw [hsn, h, if_pos rfl, sortA_snoc]
        cases hs : decide (x.s = 0) with
        | false =>
          have hk := skip (by unfold waitA; rw [hs]; rfl)
          repeat' (first
              | (simp only [dl_len, hd, h0, dl_nth, Int.toNat_natCast, hr, Option.map_some, onC_true, ↓rd_app, oa_size, oa_isV, App.noOwn, hdo5, hdg5, hs, ↓wA, ↓wC, wB, frzBE, frzBS, Nat.reduceEqDiff, Nat.reduceAdd, Nat.reduceSub, reduceIte, reduceCtorEq, Nat.reduceBEq, Nat.reduceLT, decide_true])
              | (refine execG_split (fun h => ?_) (fun h => ?_) <;> simp only [h])
              | (refine execC_split (fun h => ?_) (fun h => ?_) <;> (try simp only [h]))
              | (refine onPick_split (fun h => ?_) (fun h => ?_) <;> (try simp only [h])))
          refine exec_gh1 (Weak.refl _) ?_
          repeat' (first
              | (simp only [hs, ↓wA, ↓wC, wB, frzBE, frzBS, Nat.reduceEqDiff, Nat.reduceAdd, Nat.reduceSub, reduceIte, reduceCtorEq, Nat.reduceBEq, Nat.reduceLT, decide_true])
              | (with_reducible refine onI_bare ?_ ?_; focus (simp only [InR]; omega))
              | (refine execG_split (fun h => ?_) (fun h => ?_) <;> simp only [h])
              | (refine execC_split (fun h => ?_) (fun h => ?_) <;> (try simp only [h]))
              | (refine onPick_split (fun h => ?_) (fun h => ?_) <;> (try simp only [h])))
          refine ⟨i + 1, ?_, by omega, by omega⟩
          rw [hk]
          exact (weak_of _ rfl ⟨⟨rfl, rfl⟩, ⟨rfl, rfl⟩, ⟨rfl, rfl⟩, ⟨rfl, rfl⟩, ⟨rfl, rfl⟩, trivial⟩)
        | true =>
          cases ha : x.a.contains p with
          | false =>
            rw [ha] at hA
            have hk := skip (by unfold waitA; rw [hs, ha]; rfl)
            repeat' (first
                | (simp only [dl_len, hd, h0, dl_nth, Int.toNat_natCast, hr, Option.map_some, onC_true, ↓rd_app, oa_size, oa_isV, App.noOwn, ints_noOwn, hdo5, hdg5, hdo3, hdg3, hs, ↓wA, ↓wC, wB, frzBE, frzBS, Nat.reduceEqDiff, Nat.reduceAdd, Nat.reduceSub, reduceIte, reduceCtorEq, Nat.reduceBEq, Nat.reduceLT, decide_true])
                | (refine call_det (hA) rfl rfl ?_)
                | (refine callP_det (hA) rfl rfl ?_)
                | (refine execG_split (fun h => ?_) (fun h => ?_) <;> simp only [h])
                | (refine execC_split (fun h => ?_) (fun h => ?_) <;> (try simp only [h]))
                | (refine onPick_split (fun h => ?_) (fun h => ?_) <;> (try simp only [h])))
            refine exec_gh1 (Weak.refl _) ?_
            repeat' (first
                | (simp only [hs, ↓wA, ↓wC, wB, frzBE, frzBS, Nat.reduceEqDiff, Nat.reduceAdd, Nat.reduceSub, reduceIte, reduceCtorEq, Nat.reduceBEq, Nat.reduceLT, decide_true])
                | (with_reducible refine onI_bare ?_ ?_; focus (simp only [InR]; omega))
                | (refine execG_split (fun h => ?_) (fun h => ?_) <;> simp only [h])
                | (refine execC_split (fun h => ?_) (fun h => ?_) <;> (try simp only [h]))
                | (refine onPick_split (fun h => ?_) (fun h => ?_) <;> (try simp only [h])))
            refine ⟨i + 1, ?_, by omega, by omega⟩
            rw [hk]
            exact (weak_of _ rfl ⟨⟨rfl, rfl⟩, ⟨rfl, rfl⟩, ⟨rfl, rfl⟩, ⟨rfl, rfl⟩, ⟨rfl, rfl⟩, trivial⟩)
          | true =>
            rw [ha] at hA
            cases hh : x.h.contains p with
            | true =>
              rw [hh] at hH
              have hk := skip (by unfold waitA; rw [hs, ha, hh]; rfl)
              repeat' (first
                  | (simp only [dl_len, hd, h0, dl_nth, Int.toNat_natCast, hr, Option.map_some, onC_true, ↓rd_app, oa_size, oa_isV, App.noOwn, ints_noOwn, hdo5, hdg5, hdo3, hdg3, hdo4, hdg4, hs, ↓wA, ↓wC, wB, frzBE, frzBS, Nat.reduceEqDiff, Nat.reduceAdd, Nat.reduceSub, reduceIte, reduceCtorEq, Nat.reduceBEq, Nat.reduceLT, decide_true])
                  | (refine call_det (hA) rfl rfl ?_)
                  | (refine callP_det (hA) rfl rfl ?_)
                  | (refine call_det (hH) rfl rfl ?_)
                  | (refine callP_det (hH) rfl rfl ?_)
                  | (refine execG_split (fun h => ?_) (fun h => ?_) <;> simp only [h])
                  | (refine execC_split (fun h => ?_) (fun h => ?_) <;> (try simp only [h]))
                  | (refine onPick_split (fun h => ?_) (fun h => ?_) <;> (try simp only [h])))
              refine exec_gh1 (Weak.refl _) ?_
              repeat' (first
                  | (simp only [hs, ↓wA, ↓wC, wB, frzBE, frzBS, Nat.reduceEqDiff, Nat.reduceAdd, Nat.reduceSub, reduceIte, reduceCtorEq, Nat.reduceBEq, Nat.reduceLT, decide_true])
                  | (with_reducible refine onI_bare ?_ ?_; focus (simp only [InR]; omega))
                  | (refine execG_split (fun h => ?_) (fun h => ?_) <;> simp only [h])
                  | (refine execC_split (fun h => ?_) (fun h => ?_) <;> (try simp only [h]))
                  | (refine onPick_split (fun h => ?_) (fun h => ?_) <;> (try simp only [h])))
              refine ⟨i + 1, ?_, by omega, by omega⟩
              rw [hk]
              exact (weak_of _ rfl ⟨⟨rfl, rfl⟩, ⟨rfl, rfl⟩, ⟨rfl, rfl⟩, ⟨rfl, rfl⟩, ⟨rfl, rfl⟩, trivial⟩)
            | false =>
              rw [hh] at hH
              have hk := took (by unfold waitA; rw [hs, ha, hh]; rfl)
              generalize hV : sortA (waitL (xs.take i) p) = V at hvl hup hk ⊢
              have hs1 : ∀ k, (dl App.d' V).sub 0 k = dl App.d' (V.take k) := fun k => by rw [dl_sub]; rfl
              have hs2 : ∀ k, (dl App.d' V).sub k V.length = dl App.d' (V.drop k) := fun k => by rw [dl_sub, List.take_length]
              repeat' (first
                  | (simp only [dl_len, hd, h0, dl_nth, Int.toNat_natCast, hr, Option.map_some, onC_true, ↓rd_app, oa_size, oa_isV, App.noOwn, ints_noOwn, hdo5, hdg5, hdo3, hdg3, hdo4, hdg4, hs, ↓wA, ↓wC, wB, frzBE, frzBS, Nat.reduceEqDiff, Nat.reduceAdd, Nat.reduceSub, reduceIte, reduceCtorEq, Nat.reduceBEq, Nat.reduceLT, decide_true])
                  | (refine call_det (hA) rfl rfl ?_)
                  | (refine callP_det (hA) rfl rfl ?_)
                  | (refine call_det (hH) rfl rfl ?_)
                  | (refine callP_det (hH) rfl rfl ?_)
                  | (refine execG_split (fun h => ?_) (fun h => ?_) <;> simp only [h])
                  | (refine execC_split (fun h => ?_) (fun h => ?_) <;> (try simp only [h]))
                  | (refine onPick_split (fun h => ?_) (fun h => ?_) <;> (try simp only [h])))
              refine exec_loop (fun k : Nat => ⟨[(0, .d (.sl false 6 (appsD xs))), (1, .d (.int .i64 p)), (6, .own 0), (7, .d (.sl false 6 (dl App.d' V))), (8, .d (.int .i64 i)), (9, .ptr 1 0 []), (10, .d (.int .i64 k))], [.val (.sl true 1 .nil), .box x.d']⟩) (fun k => k ≤ V.length ∧ ∀ y, V[k]? = some y → ¬ y.d ≤ x.d) (fun k => k) V.length (weak_of _ rfl ⟨⟨rfl, rfl⟩, ⟨rfl, rfl⟩, ⟨rfl, rfl⟩, ⟨rfl, rfl⟩, ⟨rfl, rfl⟩, ⟨rfl, rfl⟩, ⟨rfl, rfl⟩, trivial⟩) ⟨Nat.le_refl _, fun y hy => absurd (lt_of_get hy) (by omega)⟩ ?_
              rintro k ⟨hkl, hkx⟩
              have h0k : (0 : Int) ≤ (k : Int) := by omega
              have hun : ∀ L : List App, (dl App.d' L).unown = dl App.d' L := fun L => dl_unown App.unown L
              by_cases hk0 : k = 0
              · have hf := insA_eq V k hkl (fun m y hm' _ => by omega) hkx
                have h1 : decide (0 < (k : Int)) = false := decide_eq_false (by omega)
                have hap2 : (dl App.d' (V.take k ++ [x])).app (dl App.d' (V.drop k)) = dl App.d' (insA x V) := by rw [dl_app, List.append_assoc, ← hf]; rfl
                repeat' (first
                    | (simp only [h0k, dl_len, h1, hs1, hs2, happ, onC_true, ↓rd_app, oa_size, oa_isV, App.noOwn, Int.toNat_natCast, ↓wA, ↓wC, wB, frzBE, frzBS, Nat.reduceEqDiff, Nat.reduceAdd, Nat.reduceSub, reduceIte, reduceCtorEq, Nat.reduceBEq, Nat.reduceLT, decide_true])
                    | (refine onJ_q ?_)
                    | (with_reducible refine And.intro ?_ ?_)
                    | (with_reducible refine onC_i ?_ ?_; focus omega)
                    | (with_reducible refine onC_i ?_ ?_; focus (simp only [List.length_take, List.length_drop]; omega))
                    | (with_reducible refine onC_i ?_ ?_; focus (simp; done))
                    | (with_reducible refine onI_bare ?_ ?_; focus (simp only [InR]; omega))
                    | (refine execG_split (fun h => ?_) (fun h => ?_) <;> simp only [h])
                    | (refine execC_split (fun h => ?_) (fun h => ?_) <;> (try simp only [h]))
                    | (refine onPick_split (fun h => ?_) (fun h => ?_) <;> (try simp only [h])))
                · try (with_reducible refine onC_i (by simp only [List.length_take, List.length_drop]; omega) ?_)
                  refine exec_gh1 (frzV 2 rfl) ?_
                  simp only [frzE, frzS, D.unown, hap2, hun, ↓wA, ↓wC, wB, frzBE, frzBS, Nat.reduceEqDiff, Nat.reduceAdd, Nat.reduceSub, reduceIte, reduceCtorEq, Nat.reduceBEq, Nat.reduceLT, decide_true]
                  repeat' (first
                      | (simp only [hs, ↓wA, ↓wC, wB, frzBE, frzBS, Nat.reduceEqDiff, Nat.reduceAdd, Nat.reduceSub, reduceIte, reduceCtorEq, Nat.reduceBEq, Nat.reduceLT, decide_true])
                      | (with_reducible refine onI_bare ?_ ?_; focus (simp only [InR]; omega))
                      | (refine execG_split (fun h => ?_) (fun h => ?_) <;> simp only [h])
                      | (refine execC_split (fun h => ?_) (fun h => ?_) <;> (try simp only [h]))
                      | (refine onPick_split (fun h => ?_) (fun h => ?_) <;> (try simp only [h])))
                  refine ⟨i + 1, ?_, by omega, by omega⟩
                  rw [hk]
                  exact (weak_of _ rfl ⟨⟨rfl, rfl⟩, ⟨rfl, rfl⟩, ⟨rfl, rfl⟩, ⟨rfl, rfl⟩, ⟨rfl, rfl⟩, trivial⟩)
                · try (with_reducible refine onC_i (by simp only [List.length_take, List.length_drop]; omega) ?_)
                  refine exec_gh1 (frzV 2 rfl) ?_
                  simp only [frzE, frzS, D.unown, hap2, hun, ↓wA, ↓wC, wB, frzBE, frzBS, Nat.reduceEqDiff, Nat.reduceAdd, Nat.reduceSub, reduceIte, reduceCtorEq, Nat.reduceBEq, Nat.reduceLT, decide_true]
                  repeat' (first
                      | (simp only [hs, ↓wA, ↓wC, wB, frzBE, frzBS, Nat.reduceEqDiff, Nat.reduceAdd, Nat.reduceSub, reduceIte, reduceCtorEq, Nat.reduceBEq, Nat.reduceLT, decide_true])
                      | (with_reducible refine onI_bare ?_ ?_; focus (simp only [InR]; omega))
                      | (refine execG_split (fun h => ?_) (fun h => ?_) <;> simp only [h])
                      | (refine execC_split (fun h => ?_) (fun h => ?_) <;> (try simp only [h]))
                      | (refine onPick_split (fun h => ?_) (fun h => ?_) <;> (try simp only [h])))
                  refine ⟨i + 1, ?_, by omega, by omega⟩
                  rw [hk]
                  exact (weak_of _ rfl ⟨⟨rfl, rfl⟩, ⟨rfl, rfl⟩, ⟨rfl, rfl⟩, ⟨rfl, rfl⟩, ⟨rfl, rfl⟩, trivial⟩)
                · try (with_reducible refine onC_i (by simp only [List.length_take, List.length_drop]; omega) ?_)
                  refine exec_gh1 (frzV 3 rfl) ?_
                  simp only [frzE, frzS, D.unown, hap2, hun, ↓wA, ↓wC, wB, frzBE, frzBS, Nat.reduceEqDiff, Nat.reduceAdd, Nat.reduceSub, reduceIte, reduceCtorEq, Nat.reduceBEq, Nat.reduceLT, decide_true]
                  repeat' (first
                      | (simp only [hs, ↓wA, ↓wC, wB, frzBE, frzBS, Nat.reduceEqDiff, Nat.reduceAdd, Nat.reduceSub, reduceIte, reduceCtorEq, Nat.reduceBEq, Nat.reduceLT, decide_true])
                      | (with_reducible refine onI_bare ?_ ?_; focus (simp only [InR]; omega))
                      | (refine execG_split (fun h => ?_) (fun h => ?_) <;> simp only [h])
                      | (refine execC_split (fun h => ?_) (fun h => ?_) <;> (try simp only [h]))
                      | (refine onPick_split (fun h => ?_) (fun h => ?_) <;> (try simp only [h])))
                  refine ⟨i + 1, ?_, by omega, by omega⟩
                  rw [hk]
                  exact (weak_of _ rfl ⟨⟨rfl, rfl⟩, ⟨rfl, rfl⟩, ⟨rfl, rfl⟩, ⟨rfl, rfl⟩, ⟨rfl, rfl⟩, trivial⟩)
              · obtain ⟨y, hy⟩ := get_lt (show k - 1 < V.length by omega)
                have h1 : decide (0 < (k : Int)) = true := decide_eq_true (by omega)
                have hn1 : ((k : Int) - 1).toNat = k - 1 := by omega
                have h0' : (0 : Int) ≤ (k : Int) - 1 := by omega
                cases hc : decide (x.d < y.d) with
                | false =>
                  have hc' := of_decide_eq_false hc
                  have hf := insA_eq V k hkl (fun m z hm' hz => by
                    by_cases e : m = k - 1
                    · subst e
                      rw [hy] at hz
                      injection hz with hz
                      rw [← hz]
                      omega
                    · have := upA_get hup (show m < k - 1 by omega) hz hy
                      omega) hkx
                  have hap2 : (dl App.d' (V.take k ++ [x])).app (dl App.d' (V.drop k)) = dl App.d' (insA x V) := by rw [dl_app, List.append_assoc, ← hf]; rfl
                  repeat' (first
                      | (simp only [h0k, hn1, h0', hc, dl_nth, hy, Option.map_some, ↓fa_app2, hdo2, hdg2, dl_len, h1, hs1, hs2, happ, onC_true, ↓rd_app, oa_size, oa_isV, App.noOwn, Int.toNat_natCast, ↓wA, ↓wC, wB, frzBE, frzBS, Nat.reduceEqDiff, Nat.reduceAdd, Nat.reduceSub, reduceIte, reduceCtorEq, Nat.reduceBEq, Nat.reduceLT, decide_true])
                      | (refine onJ_q ?_)
                      | (with_reducible refine And.intro ?_ ?_)
                      | (with_reducible refine onC_i ?_ ?_; focus omega)
                      | (with_reducible refine onC_i ?_ ?_; focus (simp only [List.length_take, List.length_drop]; omega))
                      | (with_reducible refine onC_i ?_ ?_; focus (simp; done))
                      | (with_reducible refine onI_bare ?_ ?_; focus (simp only [InR]; omega))
                      | (refine execG_split (fun h => ?_) (fun h => ?_) <;> simp only [h])
                      | (refine execC_split (fun h => ?_) (fun h => ?_) <;> (try simp only [h]))
                      | (refine onPick_split (fun h => ?_) (fun h => ?_) <;> (try simp only [h])))
                  · try (with_reducible refine onC_i (by simp only [List.length_take, List.length_drop]; omega) ?_)
                    refine exec_gh1 (frzV 2 rfl) ?_
                    simp only [frzE, frzS, D.unown, hap2, hun, ↓wA, ↓wC, wB, frzBE, frzBS, Nat.reduceEqDiff, Nat.reduceAdd, Nat.reduceSub, reduceIte, reduceCtorEq, Nat.reduceBEq, Nat.reduceLT, decide_true]
                    repeat' (first
                        | (simp only [hs, ↓wA, ↓wC, wB, frzBE, frzBS, Nat.reduceEqDiff, Nat.reduceAdd, Nat.reduceSub, reduceIte, reduceCtorEq, Nat.reduceBEq, Nat.reduceLT, decide_true])
                        | (with_reducible refine onI_bare ?_ ?_; focus (simp only [InR]; omega))
                        | (refine execG_split (fun h => ?_) (fun h => ?_) <;> simp only [h])
                        | (refine execC_split (fun h => ?_) (fun h => ?_) <;> (try simp only [h]))
                        | (refine onPick_split (fun h => ?_) (fun h => ?_) <;> (try simp only [h])))
                    refine ⟨i + 1, ?_, by omega, by omega⟩
                    rw [hk]
                    exact (weak_of _ rfl ⟨⟨rfl, rfl⟩, ⟨rfl, rfl⟩, ⟨rfl, rfl⟩, ⟨rfl, rfl⟩, ⟨rfl, rfl⟩, trivial⟩)
                  · try (with_reducible refine onC_i (by simp only [List.length_take, List.length_drop]; omega) ?_)
                    refine exec_gh1 (frzV 2 rfl) ?_
                    simp only [frzE, frzS, D.unown, hap2, hun, ↓wA, ↓wC, wB, frzBE, frzBS, Nat.reduceEqDiff, Nat.reduceAdd, Nat.reduceSub, reduceIte, reduceCtorEq, Nat.reduceBEq, Nat.reduceLT, decide_true]
                    repeat' (first
                        | (simp only [hs, ↓wA, ↓wC, wB, frzBE, frzBS, Nat.reduceEqDiff, Nat.reduceAdd, Nat.reduceSub, reduceIte, reduceCtorEq, Nat.reduceBEq, Nat.reduceLT, decide_true])
                        | (with_reducible refine onI_bare ?_ ?_; focus (simp only [InR]; omega))
                        | (refine execG_split (fun h => ?_) (fun h => ?_) <;> simp only [h])
                        | (refine execC_split (fun h => ?_) (fun h => ?_) <;> (try simp only [h]))
                        | (refine onPick_split (fun h => ?_) (fun h => ?_) <;> (try simp only [h])))
                    refine ⟨i + 1, ?_, by omega, by omega⟩
                    rw [hk]
                    exact (weak_of _ rfl ⟨⟨rfl, rfl⟩, ⟨rfl, rfl⟩, ⟨rfl, rfl⟩, ⟨rfl, rfl⟩, ⟨rfl, rfl⟩, trivial⟩)
                  · try (with_reducible refine onC_i (by simp only [List.length_take, List.length_drop]; omega) ?_)
                    refine exec_gh1 (frzV 3 rfl) ?_
                    simp only [frzE, frzS, D.unown, hap2, hun, ↓wA, ↓wC, wB, frzBE, frzBS, Nat.reduceEqDiff, Nat.reduceAdd, Nat.reduceSub, reduceIte, reduceCtorEq, Nat.reduceBEq, Nat.reduceLT, decide_true]
                    repeat' (first
                        | (simp only [hs, ↓wA, ↓wC, wB, frzBE, frzBS, Nat.reduceEqDiff, Nat.reduceAdd, Nat.reduceSub, reduceIte, reduceCtorEq, Nat.reduceBEq, Nat.reduceLT, decide_true])
                        | (with_reducible refine onI_bare ?_ ?_; focus (simp only [InR]; omega))
                        | (refine execG_split (fun h => ?_) (fun h => ?_) <;> simp only [h])
                        | (refine execC_split (fun h => ?_) (fun h => ?_) <;> (try simp only [h]))
                        | (refine onPick_split (fun h => ?_) (fun h => ?_) <;> (try simp only [h])))
                    refine ⟨i + 1, ?_, by omega, by omega⟩
                    rw [hk]
                    exact (weak_of _ rfl ⟨⟨rfl, rfl⟩, ⟨rfl, rfl⟩, ⟨rfl, rfl⟩, ⟨rfl, rfl⟩, ⟨rfl, rfl⟩, trivial⟩)
                | true =>
                  have hc' := of_decide_eq_true hc
                  repeat' (first
                      | (simp only [dl_len, h0k, h1, hn1, h0', hc, dl_nth, hy, Option.map_some, onC_true, ↓fa_app2, hdo2, hdg2, ↓wA, ↓wC, wB, frzBE, frzBS, Nat.reduceEqDiff, Nat.reduceAdd, Nat.reduceSub, reduceIte, reduceCtorEq, Nat.reduceBEq, Nat.reduceLT, decide_true])
                      | (with_reducible refine onI_bare ?_ ?_; focus (simp only [InR]; omega))
                      | (refine execG_split (fun h => ?_) (fun h => ?_) <;> simp only [h])
                      | (refine execC_split (fun h => ?_) (fun h => ?_) <;> (try simp only [h]))
                      | (refine onPick_split (fun h => ?_) (fun h => ?_) <;> (try simp only [h])))
                  rw [show (k : Int) - 1 = ((k - 1 : Nat) : Int) by omega]
                  refine ⟨k - 1, (weak_of _ rfl ⟨⟨rfl, rfl⟩, ⟨rfl, rfl⟩, ⟨rfl, rfl⟩, ⟨rfl, rfl⟩, ⟨rfl, rfl⟩, ⟨rfl, rfl⟩, ⟨rfl, rfl⟩, trivial⟩), ⟨by omega, fun z hz => ?_⟩, by omega⟩
                  rw [hy] at hz
                  injection hz with hz
                  rw [← hz]
                  omega
      · intro _ hd
        have e1 : xs.take xs.length = xs := List.take_length
        rw [e1]
        repeat' (first
            | (simp only [hd, dl_len, ↓wA, ↓wC, wB, frzBE, frzBS, Nat.reduceEqDiff, Nat.reduceAdd, Nat.reduceSub, reduceIte, reduceCtorEq, Nat.reduceBEq, Nat.reduceLT, decide_true])
            | (refine execG_split (fun h => ?_) (fun h => ?_) <;> simp only [h])
            | (refine execC_split (fun h => ?_) (fun h => ?_) <;> (try simp only [h]))
            | (refine onPick_split (fun h => ?_) (fun h => ?_) <;> (try simp only [h])))
        have hsl := sortA_len (waitL xs p)
        have hwl := waitL_len xs p
        generalize hL : sortA (waitL xs p) = L at hsl
        have hLi : waitIds xs p = L.map App.i := by rw [waitIds, hL]
        refine exec_range L.length (fun i : Nat => ⟨[(6, .own 0), (7, .d (.sl false 6 (dl App.d' L))), (11, .d (.int .i64 i))], [.val (.sl true 1 (dl iD ((L.take i).map App.i)))]⟩) (fun _ => True) (weak_of _ rfl ⟨⟨rfl, rfl⟩, ⟨rfl, rfl⟩, ⟨rfl, rfl⟩, trivial⟩) trivial ?_ ?_
        · intro i hlt _ hd h0
          obtain ⟨x, hr⟩ := get_lt hlt
          have hsn : (L.take (i + 1)).map App.i = (L.take i).map App.i ++ [x.i] := by rw [take_snoc hr, List.map_append]; rfl
          have hvl : ((L.take i).map App.i).length ≤ 10 := by simp; omega
          repeat' (first
              | (simp only [dl_len, hd, h0, dl_nth, Int.toNat_natCast, hr, Option.map_some, onC_true, ↓fa_app0, app_int, ↓wA, ↓wC, wB, frzBE, frzBS, Nat.reduceEqDiff, Nat.reduceAdd, Nat.reduceSub, reduceIte, reduceCtorEq, Nat.reduceBEq, Nat.reduceLT, decide_true])
              | (with_reducible refine onI_bare ?_ ?_; focus (simp only [InR]; omega))
              | (with_reducible refine onC_i ?_ ?_; focus omega)
              | (with_reducible refine onC_i ?_ ?_; focus (simp; done))
              | (refine execG_split (fun h => ?_) (fun h => ?_) <;> simp only [h])
              | (refine execC_split (fun h => ?_) (fun h => ?_) <;> (try simp only [h]))
              | (refine onPick_split (fun h => ?_) (fun h => ?_) <;> (try simp only [h])))
          refine ⟨i + 1, ?_, by omega, by omega⟩
          rw [hsn]
          exact (weak_of _ rfl ⟨⟨rfl, rfl⟩, ⟨rfl, rfl⟩, ⟨rfl, rfl⟩, trivial⟩)
        · intro _ hd
          have e2 : L.take L.length = L := List.take_length
          rw [e2]
          repeat' (first
              | (simp only [hd, dl_len, ↓wA, ↓wC, wB, frzBE, frzBS, Nat.reduceEqDiff, Nat.reduceAdd, Nat.reduceSub, reduceIte, reduceCtorEq, Nat.reduceBEq, Nat.reduceLT, decide_true])
              | (refine execG_split (fun h => ?_) (fun h => ?_) <;> simp only [h])
              | (refine execC_split (fun h => ?_) (fun h => ?_) <;> (try simp only [h]))
              | (refine onPick_split (fun h => ?_) (fun h => ?_) <;> (try simp only [h])))
          rw [hLi]
end Go.Pe.Try

set_option maxRecDepth 100000
set_option maxHeartbeats 4000000
set_option linter.all false
namespace Go.Pe.Try
open Go.Proofs.Try
theorem cut_clr {α : Type} {f : α → D} {z : D} (xs : List α) (lo : Nat) (h : lo ≤ xs.length) : (clrD lo z (dl f xs)).takeD lo = dl f (xs.take lo) := by
  unfold clrD dl
  rw [takeD_ofL, app_ofL, takeD_ofL, List.take_append_of_le_length (by simp; omega), List.take_take, Nat.min_self, List.map_take]
theorem clr_len {α : Type} {f : α → D} {z : D} (xs : List α) (lo : Nat) (h : lo ≤ xs.length) : (clrD lo z (dl f xs)).len = xs.length := by
  unfold clrD dl
  rw [takeD_ofL, app_ofL, len_ofL, len_ofL]
  simp
  omega
/-- what is kept. -/
def kept {α : Type} (p : α → Bool) (v : List α) : List α := v.filter fun n => !p n
theorem kept_take {α : Type} {p : α → Bool} {v : List α} {j : Nat} {r : α} (hr : v[j]? = some r) : kept p (v.take (j + 1)) = kept p (v.take j) ++ (if p r = true then [] else [r]) := by
  unfold kept
  rw [take_snoc hr, List.filter_append]
  cases h : p r <;> simp [h]
theorem kept_lt {α : Type} {p : α → Bool} {v : List α} {i : Nat} {r : α} (hr : v[i]? = some r) (hp : p r = true) : ∀ j, i < j → j ≤ v.length → (kept p (v.take j)).length < j := by
  intro j hij hj
  have hsp : v.take j = v.take i ++ (r :: (v.take j).drop (i + 1)) := by
    have hi : (v.take j)[i]? = some r := by rw [List.getElem?_take, if_pos hij]; exact hr
    have h1 := lt_of_get hi
    have h2 : (v.take j)[i] = r := by rw [List.getElem?_eq_getElem h1] at hi; injection hi
    conv => lhs; rw [← List.take_append_drop i (v.take j)]
    rw [List.take_take, Nat.min_eq_left (by omega), List.drop_eq_getElem_cons h1, h2]
  have hlen := congrArg List.length hsp
  rw [hsp]
  unfold kept
  rw [List.filter_append, List.filter_cons, hp]
  simp only [List.length_append, List.length_cons, List.length_take, List.length_drop, Bool.not_true, Bool.false_eq_true, if_false] at hlen ⊢
  have a1 := List.length_filter_le (fun n => !p n) (v.take i)
  have a2 := List.length_filter_le (fun n => !p n) ((v.take j).drop (i + 1))
  simp only [List.length_take, List.length_drop] at a1 a2
  omega
theorem kept_none {α : Type} {p : α → Bool} {v : List α} (h : idxOf p v = -1) : kept p v = v := by
  unfold kept
  rw [List.filter_eq_self]
  intro x hx
  cases hp : p x with
  | false => rfl
  | true =>
    have h2 := idxOf_any (p := p) (xs := v)
    rw [List.any_eq_true.2 ⟨x, hx, hp⟩, h] at h2
    cases h2
theorem kept_at {α : Type} {p : α → Bool} {v : List α} {i : Nat} (h : idxOf p v = (i : Int)) : kept p (v.take i) = v.take i ∧ kept p (v.take (i + 1)) = v.take i ∧ i < v.length ∧ ∃ r, v[i]? = some r ∧ p r = true := by
  cases e : v.findIdx? p with
  | none => simp [idxOf, e] at h
  | some k =>
    have hk : (k : Int) = (i : Int) := by simpa [idxOf, e] using h
    have hk : k = i := by omega
    subst hk
    rw [List.findIdx?_eq_some_iff_getElem] at e
    obtain ⟨hi, hp, hn⟩ := e
    have h1 : kept p (v.take k) = v.take k := by
      unfold kept
      rw [List.filter_eq_self]
      intro x hx
      obtain ⟨j, hj⟩ := List.getElem?_of_mem hx
      rw [List.getElem?_take] at hj
      split at hj
      · rename_i hjk
        have h3 := hn j hjk
        have h4 : v[j] = x := by rw [List.getElem?_eq_getElem (by omega)] at hj; injection hj
        rw [h4] at h3
        simpa using h3
      · cases hj
    refine ⟨h1, ?_, hi, v[k], List.getElem?_eq_getElem hi, hp⟩
    rw [kept_take (List.getElem?_eq_getElem hi), h1, if_pos hp, List.append_nil]
theorem deleteFunc_fn (p : Int → Bool) (g : Nat) (c : D) (v : List Int) (hc : c.caps = true) (he : enterOK prog.P g = true) (hlen : v.length ≤ 1048576) (hp : ∀ x ∈ v, Fn prog g (iD x :: c.list) (fun rs => rs = [.bool (p x)])) :
    FnM prog 67 false (.sl true 1 (dl iD v)) [.clo g c] (fun x' rs => (∃ u, x' = .lnk 0 u) ∧ rs = [.sl true 1 (dl iD (kept p v))]) := by
  have hI := indexFuncI_fn p g c v hc he hlen hp
  have hI' : Fn prog 121 [.sl false 1 (dl iD v).unown, .clo g c] (fun rs => rs = [.int .i64 (idxOf p v)]) := by rw [ints_unown]; exact hI
  by_cases h0 : 0 ≤ idxOf p v
  · obtain ⟨i0, r0, hi, hr0, hp0⟩ := idxOf_ge h0
    rw [hi] at hI'
    obtain ⟨k1, k2, hil, _⟩ := kept_at hi
    have hn : decide ((i0 : Int) = -1) = false := decide_eq_false (by omega)
    have hcnt : (kept p (v.take (i0 + 1))).length = i0 := by rw [k2]; simp; omega
    refine FnM_of' (fn := f67) (by exact func67) c67 r67 (n := 42) (by rfl) (rv := [.tmp 4]) (by rfl) (by decide) (by simp) ?_
    unfold m67
    repeat' (first
        | (simp only [hn, ↓wA, ↓wC, wB, frzBE, frzBS, Nat.reduceEqDiff, Nat.reduceAdd, Nat.reduceSub, reduceIte, reduceCtorEq, Nat.reduceBEq, Nat.reduceLT, decide_true])
        | (refine call_det (hI') rfl rfl ?_)
        | (refine callP_det (hI') rfl rfl ?_)
        | (with_reducible refine onI_bare ?_ ?_; focus (simp only [InR]; omega))
        | (refine execG_split (fun h => ?_) (fun h => ?_) <;> simp only [h])
        | (refine execC_split (fun h => ?_) (fun h => ?_) <;> (try simp only [h]))
        | (refine onPick_split (fun h => ?_) (fun h => ?_) <;> (try simp only [h])))
    refine exec_loop (fun x : Nat × List Int => ⟨[(0, .own 0), (1, .d (.clo g c)), (5, .d (.int .i64 (kept p (v.take x.1)).length)), (6, .d (.int .i64 x.1))], [.val (.sl true 1 (dl iD x.2))]⟩)
      (fun x => i0 < x.1 ∧ x.1 ≤ v.length ∧ x.2.length = v.length ∧ x.2.take (kept p (v.take x.1)).length = kept p (v.take x.1) ∧ x.2.drop x.1 = v.drop x.1) (fun x => v.length - x.1) (i0 + 1, v)
      (weak_of [] rfl ⟨⟨rfl, rfl⟩, ⟨rfl, rfl⟩, ⟨by rw [hcnt]; rfl, rfl⟩, ⟨rfl, rfl⟩, trivial⟩) ⟨by omega, by omega, rfl, by rw [hcnt, k2], rfl⟩ ?_
    rintro ⟨j, L⟩ ⟨q1, q2, q3, q4, q5⟩
    simp only at q1 q2 q3 q4 q5 ⊢
    have hlt0 := kept_lt hr0 hp0 j q1 q2
    generalize hN : (kept p (v.take j)).length = N at *
    by_cases hlt : j < v.length
    · obtain ⟨r, hr⟩ := get_lt hlt
      have hrL : L[j]? = some r := by
        have := congrArg (fun l : List Int => l[0]?) q5
        simp only [List.getElem?_drop, Nat.add_zero] at this
        rw [this]; exact hr
      obtain ⟨u, hu⟩ := get_lt (show N < L.length by omega)
      have hd : decide ((j : Int) < (v.length : Int)) = true := decide_eq_true (by omega)
      have hcl := hp r (List.mem_of_getElem? hr)
      have hj0 : (0 : Int) ≤ (j : Int) := by omega
      have hN0 : (0 : Int) ≤ (N : Int) := by omega
      have hk := kept_take (p := p) hr
      cases hpr : p r with
      | false =>
        rw [hpr] at hcl hk
        simp only [Bool.false_eq_true, if_false] at hk
        have hs : (dl iD L).setN N (.int .i64 r) = dl iD (L.set N r) := dl_setN (f := iD) L N r
        repeat' (first
            | (simp only [dl_len, q3, hd, dl_nth, Int.toNat_natCast, hrL, hu, Option.map_some, hj0, hN0, onC_true, size_int, hs, ↓rd_iD, ↓wA, ↓wC, wB, frzBE, frzBS, Nat.reduceEqDiff, Nat.reduceAdd, Nat.reduceSub, reduceIte, reduceCtorEq, Nat.reduceBEq, Nat.reduceLT, decide_true])
            | (refine callV_det (ds := [iD r]) hcl he hc (by simp [argsD, argD, valOf, iD]) rfl ?_)
            | (refine callW_det (ds := [iD r]) hcl he hc (by simp [argsD, argD, valOf, iD]) rfl ?_)
            | (with_reducible refine onI_bare ?_ ?_; focus (simp only [InR]; omega))
            | (refine execG_split (fun h => ?_) (fun h => ?_) <;> simp only [h])
            | (refine execC_split (fun h => ?_) (fun h => ?_) <;> (try simp only [h]))
            | (refine onPick_split (fun h => ?_) (fun h => ?_) <;> (try simp only [h])))
        refine ⟨(j + 1, L.set N r), weak_of [] rfl ⟨⟨rfl, rfl⟩, ⟨rfl, rfl⟩, ⟨?_, rfl⟩, ⟨rfl, rfl⟩, trivial⟩, ⟨by omega, by omega, by simp [q3], ?_, ?_⟩, by omega⟩
        · show SV.d (.int .i64 ((N : Int) + 1)) = SV.d (.int .i64 (kept p (v.take (j + 1))).length)
          rw [hk, List.length_append, hN]
          exact congrArg (fun n => SV.d (.int .i64 n)) (by simp)
        · show (L.set N r).take (kept p (v.take (j + 1))).length = kept p (v.take (j + 1))
          have h3 : (L.set N r)[N]? = some r := by rw [List.getElem?_set]; simp; omega
          rw [hk, List.length_append, hN, List.length_singleton, take_snoc h3, List.take_set_of_le (Nat.le_refl _), q4]
        · show (L.set N r).drop (j + 1) = v.drop (j + 1)
          rw [List.drop_set_of_lt (by omega)]
          have := congrArg (List.drop 1) q5
          simpa [List.drop_drop] using this
      | true =>
        rw [hpr] at hcl hk
        simp only [if_true, List.append_nil] at hk
        repeat' (first
            | (simp only [dl_len, q3, hd, dl_nth, Int.toNat_natCast, hrL, hu, Option.map_some, hj0, hN0, onC_true, size_int, ↓rd_iD, ↓wA, ↓wC, wB, frzBE, frzBS, Nat.reduceEqDiff, Nat.reduceAdd, Nat.reduceSub, reduceIte, reduceCtorEq, Nat.reduceBEq, Nat.reduceLT, decide_true])
            | (refine callV_det (ds := [iD r]) hcl he hc (by simp [argsD, argD, valOf, iD]) rfl ?_)
            | (refine callW_det (ds := [iD r]) hcl he hc (by simp [argsD, argD, valOf, iD]) rfl ?_)
            | (with_reducible refine onI_bare ?_ ?_; focus (simp only [InR]; omega))
            | (refine execG_split (fun h => ?_) (fun h => ?_) <;> simp only [h])
            | (refine execC_split (fun h => ?_) (fun h => ?_) <;> (try simp only [h]))
            | (refine onPick_split (fun h => ?_) (fun h => ?_) <;> (try simp only [h])))
        refine ⟨(j + 1, L), weak_of [] rfl ⟨⟨rfl, rfl⟩, ⟨rfl, rfl⟩, ⟨?_, rfl⟩, ⟨rfl, rfl⟩, trivial⟩, ⟨by omega, by omega, q3, ?_, ?_⟩, by omega⟩
        · show SV.d (.int .i64 (N : Int)) = SV.d (.int .i64 (kept p (v.take (j + 1))).length)
          rw [hk, hN]
        · show L.take (kept p (v.take (j + 1))).length = kept p (v.take (j + 1))
          rw [hk, hN]; exact q4
        · show L.drop (j + 1) = v.drop (j + 1)
          have := congrArg (List.drop 1) q5
          simpa [List.drop_drop] using this
    · have e : j = v.length := by omega
      subst e
      rw [List.take_length] at q4 hN
      have hd : decide ((v.length : Int) < (v.length : Int)) = false := decide_eq_false (by omega)
      have hNl : N ≤ L.length := by omega
      repeat' (first
          | (simp only [dl_len, q3, hd, Int.toNat_natCast, cut_clr L N hNl, clr_len L N hNl, ↓wA, ↓wC, wB, frzBE, frzBS, Nat.reduceEqDiff, Nat.reduceAdd, Nat.reduceSub, reduceIte, reduceCtorEq, Nat.reduceBEq, Nat.reduceLT, decide_true])
          | (with_reducible refine onC_i ?_ ?_; focus omega)
          | (refine onV_i fun u => ?_)
          | (refine execG_split (fun h => ?_) (fun h => ?_) <;> simp only [h])
          | (refine execC_split (fun h => ?_) (fun h => ?_) <;> (try simp only [h]))
          | (refine onPick_split (fun h => ?_) (fun h => ?_) <;> (try simp only [h])))
      exact ⟨⟨u, rfl⟩, by rw [q4]⟩
  · have hm := idxOf_lt h0
    rw [hm] at hI'
    rw [kept_none hm]
    have hn : decide ((-1 : Int) = -1) = true := rfl
    refine FnM_ofg (ps := [[1, 1, 0, 1, 0, 1]]) (fn := f67) (by exact func67) c67 r67 (n := 42) (by rfl) (rv := [.tmp 4]) (by rfl) (by decide) (by simp) ?_
    unfold m67
    simp only [ghAll, ghAt]
    repeat' (first
        | (simp only [hn, ↓wA, ↓wC, wB, frzBE, frzBS, Nat.reduceEqDiff, Nat.reduceAdd, Nat.reduceSub, reduceIte, reduceCtorEq, Nat.reduceBEq, Nat.reduceLT, decide_true])
        | (refine call_det (hI') rfl rfl ?_)
        | (refine callP_det (hI') rfl rfl ?_)
        | (refine execG_split (fun h => ?_) (fun h => ?_) <;> simp only [h])
        | (refine execC_split (fun h => ?_) (fun h => ?_) <;> (try simp only [h]))
        | (refine onPick_split (fun h => ?_) (fun h => ?_) <;> (try simp only [h])))
    refine exec_gh _ (mvOwn 4 0 rfl rfl) fun u => ?_
    repeat' (first
        | (simp only [hn, ↓wA, ↓wC, wB, frzBE, frzBS, Nat.reduceEqDiff, Nat.reduceAdd, Nat.reduceSub, reduceIte, reduceCtorEq, Nat.reduceBEq, Nat.reduceLT, decide_true])
        | (refine execG_split (fun h => ?_) (fun h => ?_) <;> simp only [h])
        | (refine execC_split (fun h => ?_) (fun h => ?_) <;> (try simp only [h]))
        | (refine onPick_split (fun h => ?_) (fun h => ?_) <;> (try simp only [h])))
    exact ⟨u, rfl⟩
end Go.Pe.Try

set_option maxRecDepth 100000
set_option maxHeartbeats 4000000
set_option linter.all false
namespace Go.Pe.Try
open Go.Proofs.Try
def leftA (x : App) : List Int := kept (fun n => x.h.contains n) x.a
def nhR (xs : List App) (id : Int) : Option (List Int) := match xs[(findA xs id).toNat]? with
  | some x => if (decide (0 ≤ findA xs id) && goodA xs) = true then some (leftA x) else none
  | none => none
def intsR : Option (List Int) → List D
  | some v => [.sl true 1 (dl iD v), .bool true]
  | none => [.sl true 1 (dl iD []), .bool false]
theorem nhR_neg {xs : List App} {id : Int} (h : decide (0 ≤ findA xs id) = false) : nhR xs id = none := by
  unfold nhR
  rw [h]
  split <;> simp
theorem nhR_at {xs : List App} {id : Int} {i : Nat} {x : App} (h : findA xs id = (i : Int)) (hr : xs[i]? = some x) : nhR xs id = if goodA xs = true then some (leftA x) else none := by
  unfold nhR
  rw [h, Int.toNat_natCast, hr]
  simp
theorem nhClo_fn (xs : List App) (i : Nat) (x : App) (n : Int) (hr : xs[i]? = some x) (hx : x.ok0) : Fn prog 69 [iD n, .ptr (.sl false 6 (appsD xs)), .ptr (.int .i64 i)] (fun rs => rs = [.bool (x.h.contains n)]) := by
  have hC := containsI_fn x.h n hx.2
  have h0 : (0 : Int) ≤ (i : Int) := by omega
  refine Fn_of' (fn := f69) (by exact func69) c69 r69 (n := 12) (by rfl) (rv := [.tmp 4]) (by rfl) (by simp) ?_
  unfold m69
  repeat' (first
      | (simp only [dl_nth, h0, Int.toNat_natCast, hr, Option.map_some, onC_true, ↓fa_app4, ints_noOwn, apps_noOwn, ↓wA, ↓wC, wB, frzBE, frzBS, Nat.reduceEqDiff, Nat.reduceAdd, Nat.reduceSub, reduceIte, reduceCtorEq, Nat.reduceBEq, Nat.reduceLT, decide_true])
      | (refine call_det (hC) rfl rfl ?_)
      | (refine callP_det (hC) rfl rfl ?_)
      | (refine execG_split (fun h => ?_) (fun h => ?_) <;> simp only [h])
      | (refine execC_split (fun h => ?_) (fun h => ?_) <;> (try simp only [h]))
      | (refine onPick_split (fun h => ?_) (fun h => ?_) <;> (try simp only [h])))
theorem notHeard_fn (xs : List App) (id : Int) (hlen : xs.length ≤ 1048576) (hx : ∀ x ∈ xs, x.ok0) : Fn prog 10 [.sl false 6 (appsD xs), .int .i64 id] (fun rs => rs = intsR (nhR xs id)) := by
  have hF := appealAt_fn xs id hlen
  have hG := areAppeals_fn xs hlen hx
  rcases find_cases xs id with ⟨hn, hn'⟩ | ⟨i, x, hi, hr, _⟩
  · rw [nhR_neg hn']
    refine Fn_of' (fn := f10) (by exact func10) c10 r10 (n := 25) (by rfl) (rv := [.tmp 4, .tmp 5]) (by rfl) (by simp) ?_
    unfold m10
    repeat' (first
        | (simp only [hn, apps_noOwn, ↓wA, ↓wC, wB, frzBE, frzBS, Nat.reduceEqDiff, Nat.reduceAdd, Nat.reduceSub, reduceIte, reduceCtorEq, Nat.reduceBEq, Nat.reduceLT, decide_true])
        | (refine call_det (hF) rfl rfl ?_)
        | (refine callP_det (hF) rfl rfl ?_)
        | (refine call_det (hG) rfl rfl ?_)
        | (refine callP_det (hG) rfl rfl ?_)
        | (refine take_nil 1 ?_)
        | (refine execG_split (fun h => ?_) (fun h => ?_) <;> simp only [h])
        | (refine execC_split (fun h => ?_) (fun h => ?_) <;> (try simp only [h]))
        | (refine onPick_split (fun h => ?_) (fun h => ?_) <;> (try simp only [h])))
    all_goals rfl
  · rw [nhR_at hi hr]
    rw [hi] at hF
    have hm := List.mem_of_getElem? hr
    have h0 : (0 : Int) ≤ (i : Int) := by omega
    have hn : decide ((i : Int) < 0) = false := decide_eq_false (by omega)
    cases hg : goodA xs with
    | false =>
      rw [hg] at hG
      refine Fn_of' (fn := f10) (by exact func10) c10 r10 (n := 25) (by rfl) (rv := [.tmp 4, .tmp 5]) (by rfl) (by simp) ?_
      unfold m10
      repeat' (first
          | (simp only [hn, apps_noOwn, ↓wA, ↓wC, wB, frzBE, frzBS, Nat.reduceEqDiff, Nat.reduceAdd, Nat.reduceSub, reduceIte, reduceCtorEq, Nat.reduceBEq, Nat.reduceLT, decide_true])
          | (refine call_det (hF) rfl rfl ?_)
          | (refine callP_det (hF) rfl rfl ?_)
          | (refine call_det (hG) rfl rfl ?_)
          | (refine callP_det (hG) rfl rfl ?_)
          | (refine take_nil 1 ?_)
          | (refine execG_split (fun h => ?_) (fun h => ?_) <;> simp only [h])
          | (refine execC_split (fun h => ?_) (fun h => ?_) <;> (try simp only [h]))
          | (refine onPick_split (fun h => ?_) (fun h => ?_) <;> (try simp only [h])))
      all_goals rfl
    | true =>
      rw [hg] at hG
      have hC := cloneI_fn x.a (hx x hm).1
      have hD := deleteFunc_fn (fun n => x.h.contains n) 69 (.cons (.ptr (.sl false 6 (appsD xs))) (.cons (.ptr (.int .i64 i)) .nil)) x.a rfl en69 (hx x hm).1 (fun n _ => nhClo_fn xs i x n hr (hx x hm))
      refine Fn_ofg (ps := [[1, 1, 1, 0], [1, 1, 1, 0]]) (fn := f10) (by exact func10) c10 r10 (n := 25) (by rfl) (rv := [.tmp 4, .tmp 5]) (by rfl) (by simp) ?_
      unfold m10
      simp only [ghAll, ghAt]
      repeat' (first
          | (simp only [hn, apps_noOwn, ↓wA, ↓wC, wB, frzBE, frzBS, Nat.reduceEqDiff, Nat.reduceAdd, Nat.reduceSub, reduceIte, reduceCtorEq, Nat.reduceBEq, Nat.reduceLT, decide_true])
          | (refine call_det (hF) rfl rfl ?_)
          | (refine callP_det (hF) rfl rfl ?_)
          | (refine call_det (hG) rfl rfl ?_)
          | (refine callP_det (hG) rfl rfl ?_)
          | (refine execG_split (fun h => ?_) (fun h => ?_) <;> simp only [h])
          | (refine execC_split (fun h => ?_) (fun h => ?_) <;> (try simp only [h]))
          | (refine onPick_split (fun h => ?_) (fun h => ?_) <;> (try simp only [h])))
      refine exec_gh1 (frzB 0 rfl) ?_
      simp only [D.unown, apps_unown, ↓wA, ↓wC, wB, frzBE, frzBS, Nat.reduceEqDiff, Nat.reduceAdd, Nat.reduceSub, reduceIte, reduceCtorEq, Nat.reduceBEq, Nat.reduceLT, decide_true]
      refine exec_gh1 (frzB 1 rfl) ?_
      simp only [D.unown, apps_unown, ↓wA, ↓wC, wB, frzBE, frzBS, Nat.reduceEqDiff, Nat.reduceAdd, Nat.reduceSub, reduceIte, reduceCtorEq, Nat.reduceBEq, Nat.reduceLT, decide_true]
      repeat' (first
          | (simp only [h0, dl_nth, Int.toNat_natCast, hr, Option.map_some, onC_true, ↓fa_app3, ints_noOwn, apps_noOwn, ↓wA, ↓wC, wB, frzBE, frzBS, Nat.reduceEqDiff, Nat.reduceAdd, Nat.reduceSub, reduceIte, reduceCtorEq, Nat.reduceBEq, Nat.reduceLT, decide_true])
          | (refine call_det hC rfl rfl ?_)
          | (refine execG_split (fun h => ?_) (fun h => ?_) <;> simp only [h])
          | (refine execC_split (fun h => ?_) (fun h => ?_) <;> (try simp only [h]))
          | (refine onPick_split (fun h => ?_) (fun h => ?_) <;> (try simp only [h])))
      refine callM_rel hD rfl rfl rfl fun y rs hR => ?_
      obtain ⟨⟨u, rfl⟩, rfl⟩ := hR
      repeat' (first
          | (simp only [ints_noOwn, ↓wA, ↓wC, wB, frzBE, frzBS, Nat.reduceEqDiff, Nat.reduceAdd, Nat.reduceSub, reduceIte, reduceCtorEq, Nat.reduceBEq, Nat.reduceLT, decide_true])
          | (refine execG_split (fun h => ?_) (fun h => ?_) <;> simp only [h])
          | (refine execC_split (fun h => ?_) (fun h => ?_) <;> (try simp only [h]))
          | (refine onPick_split (fun h => ?_) (fun h => ?_) <;> (try simp only [h])))
      all_goals rfl
end Go.Pe.Try

set_option maxRecDepth 100000
set_option maxHeartbeats 4000000
set_option linter.all false
namespace Go.Pe.Try
open Go.Proofs.Try
theorem bytes_noOwn : ∀ bs : List UInt8, (bytesD bs).noOwn = true
  | [] => rfl
  | b :: bs => by simp [bytesD, D.noOwn, bytes_noOwn bs]
theorem bytes_nth : ∀ (bs : List UInt8) (i : Nat), (bytesD bs).nth i = (bs[i]?).map fun b => D.int .u8 (b.toNat : Int)
  | [], i => by cases i <;> rfl
  | b :: bs, 0 => rfl
  | b :: bs, i + 1 => by simp [bytesD, D.nth, bytes_nth bs i]
theorem and255 (x : Int) : 0 ≤ bits .and .u64 x 255 ∧ bits .and .u64 x 255 ≤ 255 := by
  unfold bits
  have h : (BitVec.ofInt (IntKind.bits .u64) x &&& BitVec.ofInt (IntKind.bits .u64) 255).toNat ≤ 255 := by
    rw [BitVec.toNat_and]; exact Nat.le_trans Nat.and_le_right (by decide)
  simp only []
  generalize (BitVec.ofInt (IntKind.bits .u64) x &&& BitVec.ofInt (IntKind.bits .u64) 255).toNat = m at h
  have : IntKind.wrap .u64 (m : Int) = m := by
    simp [IntKind.wrap, IntKind.bits, IntKind.signed]; omega
  rw [this]; omega
def curD (code : List UInt8) (k : Nat) (seed : Int) : D := .st (.cons (.sl false 1 (bytesD code)) (.cons (.int .i64 k) (.cons (.int .u64 seed) .nil)))
theorem cur_next (code : List UInt8) (k : Nat) (seed : Int) (hc : code.length ≤ 1048576) (hk : k ≤ 1000000000000) : FnM prog 128 true (curD code k seed) []
    (fun x' rs => ∃ (n : Int) (seed' : Int), x' = curD code (k + 1) seed' ∧ rs = [.int .i64 n] ∧ 0 ≤ n ∧ n < 256) := by
  have h0 : (0 : Int) ≤ (k : Int) := by omega
  refine FnM_of' (fn := f128) (by exact func128) c128 r128 (n := 62) (by rfl) (rv := [.tmp 2]) (by rfl) (by decide) (by simp) ?_
  unfold m128
  simp only [curD]
  by_cases hlt : k < code.length
  · obtain ⟨b, hb⟩ := get_lt hlt
    have hbl : (b.toNat : Int) < 256 := by have := b.toNat_lt; omega
    have hd : decide ((k : Int) < (code.length : Int)) = true := decide_eq_true (by omega)
    have hd2 : decide ((k : Int) + 1 ≤ (code.length : Int)) = true := decide_eq_true (by omega)
    repeat' (first
        | (simp only [bytesD_len, bytes_noOwn, bytes_nth, hd, hd2, h0, hb, Int.toNat_natCast, onC_true, ↓wA, ↓wC, wB, frzBE, frzBS, Nat.reduceEqDiff, Nat.reduceAdd, Nat.reduceSub, reduceIte, reduceCtorEq, Nat.reduceBEq, Nat.reduceLT, decide_true])
        | (refine onI_bare (by simp only [InR]; omega) ?_)
        | (refine onI_wrap ?_)
        | (refine execG_split (fun h => ?_) (fun h => ?_) <;> simp only [h])
        | (refine execC_split (fun h => ?_) (fun h => ?_) <;> (try simp only [h]))
        | (refine onPick_split (fun h => ?_) (fun h => ?_) <;> (try simp only [h])))
    exact ⟨_, _, rfl, rfl, by omega, hbl⟩
  · have hd : decide ((k : Int) < (code.length : Int)) = false := decide_eq_false (by omega)
    have hd2 : decide ((k : Int) + 1 ≤ (code.length : Int)) = false := decide_eq_false (by omega)
    repeat' (first
        | (simp only [bytesD_len, bytes_noOwn, hd, hd2, h0, onC_true, ↓wA, ↓wC, wB, frzBE, frzBS, Nat.reduceEqDiff, Nat.reduceAdd, Nat.reduceSub, reduceIte, reduceCtorEq, Nat.reduceBEq, Nat.reduceLT, decide_true])
        | (with_reducible refine onI_bare ?_ ?_; focus (simp only [InR]; omega))
        | (with_reducible refine onC_i ?_ ?_; focus omega)
        | (with_reducible refine onI_wrap (k := .u64) ?_)
        | (refine execG_split (fun h => ?_) (fun h => ?_) <;> simp only [h])
        | (refine execC_split (fun h => ?_) (fun h => ?_) <;> (try simp only [h]))
        | (refine onPick_split (fun h => ?_) (fun h => ?_) <;> (try simp only [h])))
    generalize hX : (Int.fdiv _ _ : Int) = X
    have h255 := and255 X
    refine onI_bare (by simp only [InR]; omega) ?_
    simp only [↓wA, ↓wC, wB, frzBE, frzBS, Nat.reduceEqDiff, Nat.reduceAdd, Nat.reduceSub, reduceIte, reduceCtorEq, Nat.reduceBEq, Nat.reduceLT, decide_true]
    exact ⟨_, _, rfl, rfl, h255.1, by omega⟩
end Go.Pe.Try

set_option maxRecDepth 100000
set_option maxHeartbeats 4000000
set_option linter.all false
namespace Go.Pe.Try
open Go.Proofs.Try
theorem pick_fn (code : List UInt8) (k : Nat) (seed n : Int) (hc : code.length ≤ 1048576) (hk : k ≤ 999999999990) : FnM prog 86 true (curD code k seed) [.int .i64 n]
    (fun x' rs => ∃ (m : Int) (k' : Nat) (seed' : Int), x' = curD code k' seed' ∧ rs = [.int .i64 m] ∧ k ≤ k' ∧ k' ≤ k + 2 ∧ 0 ≤ m ∧ (m < n ∨ m = 0)) := by
  cases h1 : decide (n ≤ 1) with
  | true =>
    refine FnM_of' (fn := f86) (by exact func86) c86 r86 (n := 20) (by rfl) (rv := [.tmp 4]) (by rfl) (by decide) (by simp) ?_
    unfold m86
    repeat' (first
        | (simp only [h1, ↓wA, ↓wC, wB, frzBE, frzBS, Nat.reduceEqDiff, Nat.reduceAdd, Nat.reduceSub, reduceIte, reduceCtorEq, Nat.reduceBEq, Nat.reduceLT, decide_true])
        | (refine execG_split (fun h => ?_) (fun h => ?_) <;> simp only [h])
        | (refine execC_split (fun h => ?_) (fun h => ?_) <;> (try simp only [h]))
        | (refine onPick_split (fun h => ?_) (fun h => ?_) <;> (try simp only [h])))
    exact ⟨0, k, seed, rfl, rfl, by omega, by omega, by omega, .inr rfl⟩
  | false =>
    have h1' := of_decide_eq_false h1
    have hn0 : n ≠ 0 := by omega
    cases h2 : decide (200 < n) with
    | false =>
      refine FnM_of' (fn := f86) (by exact func86) c86 r86 (n := 20) (by rfl) (rv := [.tmp 4]) (by rfl) (by decide) (by simp) ?_
      unfold m86
      repeat' (first
          | (simp only [h1, h2, ↓wA, ↓wC, wB, frzBE, frzBS, Nat.reduceEqDiff, Nat.reduceAdd, Nat.reduceSub, reduceIte, reduceCtorEq, Nat.reduceBEq, Nat.reduceLT, decide_true])
          | (refine execG_split (fun h => ?_) (fun h => ?_) <;> simp only [h])
          | (refine execC_split (fun h => ?_) (fun h => ?_) <;> (try simp only [h]))
          | (refine onPick_split (fun h => ?_) (fun h => ?_) <;> (try simp only [h])))
      refine callM_rel (cur_next code k seed hc (by omega)) rfl rfl rfl ?_
      rintro _ _ ⟨a, s1, rfl, rfl, ha0, ha1⟩
      have t0 : 0 ≤ a.tmod n := Int.tmod_nonneg _ ha0
      have t1 : a.tmod n < n := Int.tmod_lt_of_pos _ (by omega)
      repeat' (first
          | (simp only [h1, h2, ↓wA, ↓wC, wB, frzBE, frzBS, Nat.reduceEqDiff, Nat.reduceAdd, Nat.reduceSub, reduceIte, reduceCtorEq, Nat.reduceBEq, Nat.reduceLT, decide_true])
          | (with_reducible refine onC_i hn0 ?_)
          | (with_reducible refine onI_bare ?_ ?_; focus (simp only [InR]; omega))
          | (refine execG_split (fun h => ?_) (fun h => ?_) <;> simp only [h])
          | (refine execC_split (fun h => ?_) (fun h => ?_) <;> (try simp only [h]))
          | (refine onPick_split (fun h => ?_) (fun h => ?_) <;> (try simp only [h])))
      exact ⟨_, k + 1, s1, rfl, rfl, by omega, by omega, t0, .inl t1⟩
    | true =>
      refine FnM_of' (fn := f86) (by exact func86) c86 r86 (n := 20) (by rfl) (rv := [.tmp 4]) (by rfl) (by decide) (by simp) ?_
      unfold m86
      repeat' (first
          | (simp only [h1, h2, ↓wA, ↓wC, wB, frzBE, frzBS, Nat.reduceEqDiff, Nat.reduceAdd, Nat.reduceSub, reduceIte, reduceCtorEq, Nat.reduceBEq, Nat.reduceLT, decide_true])
          | (refine execG_split (fun h => ?_) (fun h => ?_) <;> simp only [h])
          | (refine execC_split (fun h => ?_) (fun h => ?_) <;> (try simp only [h]))
          | (refine onPick_split (fun h => ?_) (fun h => ?_) <;> (try simp only [h])))
      refine callM_rel (cur_next code k seed hc (by omega)) rfl rfl rfl ?_
      rintro _ _ ⟨a, s1, rfl, rfl, ha0, ha1⟩
      repeat' (first
          | (simp only [h1, h2, ↓wA, ↓wC, wB, frzBE, frzBS, Nat.reduceEqDiff, Nat.reduceAdd, Nat.reduceSub, reduceIte, reduceCtorEq, Nat.reduceBEq, Nat.reduceLT, decide_true])
          | (with_reducible refine onI_bare ?_ ?_; focus (simp only [InR]; omega))
          | (refine execG_split (fun h => ?_) (fun h => ?_) <;> simp only [h])
          | (refine execC_split (fun h => ?_) (fun h => ?_) <;> (try simp only [h]))
          | (refine onPick_split (fun h => ?_) (fun h => ?_) <;> (try simp only [h])))
      refine callM_rel (cur_next code (k + 1) s1 hc (by omega)) rfl rfl rfl ?_
      rintro _ _ ⟨b, s2, rfl, rfl, hb0, hb1⟩
      have t0 : 0 ≤ (a * 256 + b).tmod n := Int.tmod_nonneg _ (by omega)
      have t1 : (a * 256 + b).tmod n < n := Int.tmod_lt_of_pos _ (by omega)
      repeat' (first
          | (simp only [h1, h2, ↓wA, ↓wC, wB, frzBE, frzBS, Nat.reduceEqDiff, Nat.reduceAdd, Nat.reduceSub, reduceIte, reduceCtorEq, Nat.reduceBEq, Nat.reduceLT, decide_true])
          | (with_reducible refine onC_i hn0 ?_)
          | (with_reducible refine onI_bare ?_ ?_; focus (simp only [InR]; omega))
          | (refine execG_split (fun h => ?_) (fun h => ?_) <;> simp only [h])
          | (refine execC_split (fun h => ?_) (fun h => ?_) <;> (try simp only [h]))
          | (refine onPick_split (fun h => ?_) (fun h => ?_) <;> (try simp only [h])))
      exact ⟨_, k + 1 + 1, s2, rfl, rfl, by omega, by omega, t0, .inl t1⟩
end Go.Pe.Try

set_option maxRecDepth 100000
set_option maxHeartbeats 4000000
set_option linter.all false
namespace Go.Pe.Try
open Go.Proofs.Try
theorem one_fn (code : List UInt8) (k : Nat) (seed n : Int) (hc : code.length ≤ 1048576) (hk : k ≤ 999999999990) : FnM prog 102 true (curD code k seed) [.int .i64 n]
    (fun x' rs => ∃ (b : Bool) (k' : Nat) (seed' : Int), x' = curD code k' seed' ∧ rs = [.bool b] ∧ k ≤ k' ∧ k' ≤ k + 2) := by
  refine FnM_of' (fn := f102) (by exact func102) c102 r102 (n := 9) (by rfl) (rv := [.tmp 4]) (by rfl) (by decide) (by simp) ?_
  unfold m102
  try simp only [↓wA, ↓wC, wB, frzBE, frzBS, Nat.reduceEqDiff, Nat.reduceAdd, Nat.reduceSub, reduceIte, reduceCtorEq, Nat.reduceBEq, Nat.reduceLT, decide_true]
  refine callM_rel (pick_fn code k seed n hc hk) rfl rfl rfl ?_
  rintro _ _ ⟨m, k', s', rfl, rfl, h1, h2, h3, h4⟩
  simp only [↓wA, ↓wC, wB, frzBE, frzBS, Nat.reduceEqDiff, Nat.reduceAdd, Nat.reduceSub, reduceIte, reduceCtorEq, Nat.reduceBEq, Nat.reduceLT, decide_true]
  exact ⟨_, k', s', rfl, rfl, h1, h2⟩
theorem among_fn (code : List UInt8) (k : Nat) (seed : Int) (v : List Int) (hc : code.length ≤ 1048576) (hk : k ≤ 999999999990) (hv : 0 < v.length) (hl : v.length ≤ 1048576) : FnM prog 85 true (curD code k seed) [.sl false 1 (dl iD v)]
    (fun x' rs => ∃ (m : Int) (k' : Nat) (seed' : Int), x' = curD code k' seed' ∧ rs = [.int .i64 m] ∧ k ≤ k' ∧ k' ≤ k + 2 ∧ m ∈ v) := by
  refine FnM_of' (fn := f85) (by exact func85) c85 r85 (n := 12) (by rfl) (rv := [.tmp 4]) (by rfl) (by decide) (by simp) ?_
  unfold m85
  try simp only [dl_len, ↓wA, ↓wC, wB, frzBE, frzBS, Nat.reduceEqDiff, Nat.reduceAdd, Nat.reduceSub, reduceIte, reduceCtorEq, Nat.reduceBEq, Nat.reduceLT, decide_true]
  refine callM_rel (pick_fn code k seed v.length hc hk) rfl rfl rfl ?_
  rintro _ _ ⟨m, k', s', rfl, rfl, h1, h2, h3, h4⟩
  obtain ⟨y, hy⟩ := get_lt (show m.toNat < v.length by omega)
  repeat' (first
      | (simp only [dl_len, dl_nth, h3, hy, Option.map_some, onC_true, rd_iD, ↓wA, ↓wC, wB, frzBE, frzBS, Nat.reduceEqDiff, Nat.reduceAdd, Nat.reduceSub, reduceIte, reduceCtorEq, Nat.reduceBEq, Nat.reduceLT, decide_true])
      | (refine execG_split (fun h => ?_) (fun h => ?_) <;> simp only [h])
      | (refine execC_split (fun h => ?_) (fun h => ?_) <;> (try simp only [h]))
      | (refine onPick_split (fun h => ?_) (fun h => ?_) <;> (try simp only [h])))
  exact ⟨y, k', s', rfl, rfl, h1, h2, List.mem_of_getElem? hy⟩
end Go.Pe.Try

set_option maxRecDepth 100000
set_option maxHeartbeats 4000000
set_option linter.all false
namespace Go.Pe.Try
open Go.Proofs.Try
theorem ap_int (L : List Int) (r : Int) : (dl iD L).app (D.cons (.int .i64 r) .nil) = dl iD (L ++ [r]) := app_one (f := iD) L r
theorem day24_fn (code : List UInt8) (k : Nat) (seed : Int) (hc : code.length ≤ 1048576) (hk : k ≤ 999999999900) : FnM prog 93 true (curD code k seed) []
    (fun x' rs => ∃ (m : Int) (k' : Nat) (seed' : Int), x' = curD code k' seed' ∧ rs = [.int .i64 m] ∧ k ≤ k' ∧ k' ≤ k + 4 ∧ -1 ≤ m ∧ m ≤ 20001) := by
  refine FnM_of' (fn := f93) (by exact func93) c93 r93 (n := 11) (by rfl) (rv := [.tmp 2]) (by rfl) (by decide) (by simp) ?_
  unfold m93
  repeat' (first
      | (simp only [onC_true, ↓wA, ↓wC, wB, frzBE, frzBS, Nat.reduceEqDiff, Nat.reduceAdd, Nat.reduceSub, reduceIte, reduceCtorEq, Nat.reduceBEq, Nat.reduceLT, decide_true])
      | (refine execG_split (fun h => ?_) (fun h => ?_) <;> simp only [h])
      | (refine execC_split (fun h => ?_) (fun h => ?_) <;> (try simp only [h]))
      | (refine onPick_split (fun h => ?_) (fun h => ?_) <;> (try simp only [h])))
  refine callM_rel (pick_fn code k seed 24 hc (by omega)) rfl rfl rfl ?_
  rintro _ _ ⟨n, k1, s1, rfl, rfl, hk1, hk1', hn, hn'⟩
  have hq0 : 0 ≤ n.tdiv 11 := Int.tdiv_nonneg hn (by decide)
  have hq1 : n.tdiv 11 ≤ 2 := by
    have : n ≤ 23 := by omega
    have h2 : n.tdiv 11 = n / 11 := Int.tdiv_eq_ediv_of_nonneg hn
    omega
  have hlen : (dl iD [40, 60, 61, 100, 101, 20000, -1, 20001]).len = 8 := rfl
  have htk : (6 + n.tdiv 11).toNat ≤ 8 ∧ 6 ≤ (6 + n.tdiv 11).toNat := by omega
  have hT : ∀ b, ((D.int .i64 40).cons ((D.int .i64 60).cons ((D.int .i64 61).cons ((D.int .i64 100).cons ((D.int .i64 101).cons ((D.int .i64 20000).cons ((D.int .i64 (-1)).cons ((D.int .i64 20001).cons D.nil)))))))).takeD b = dl iD (([40, 60, 61, 100, 101, 20000, -1, 20001] : List Int).take b) := fun b => by
    show (dl iD [40, 60, 61, 100, 101, 20000, -1, 20001]).takeD b = _
    unfold dl
    rw [takeD_ofL, List.map_take]
  generalize hB : 6 + n.tdiv 11 = B at htk
  repeat' (first
      | (simp only [onC_true, hT, hB, ↓wA, ↓wC, wB, frzBE, frzBS, Nat.reduceEqDiff, Nat.reduceAdd, Nat.reduceSub, reduceIte, reduceCtorEq, Nat.reduceBEq, Nat.reduceLT, decide_true])
      | (with_reducible refine onC_i (by decide) ?_)
      | (with_reducible refine onC_i ?_ ?_; focus omega)
      | (with_reducible refine onI_bare ?_ ?_; focus (simp only [InR]; omega))
      | (refine onV_i fun u => ?_)
      | (refine execG_split (fun h => ?_) (fun h => ?_) <;> simp only [h])
      | (refine execC_split (fun h => ?_) (fun h => ?_) <;> (try simp only [h]))
      | (refine onPick_split (fun h => ?_) (fun h => ?_) <;> (try simp only [h])))
  refine call_frz 2 ?_
  simp only [frz1, frzE, frzS, D.unown, ints_unown, ↓wA, ↓wC, wB, frzBE, frzBS, Nat.reduceEqDiff, Nat.reduceAdd, Nat.reduceSub, reduceIte, reduceCtorEq, Nat.reduceBEq, Nat.reduceLT, decide_true]
  have hl : (([40, 60, 61, 100, 101, 20000, -1, 20001] : List Int).take B.toNat).length = B.toNat := by simp; omega
  refine callM_rel (among_fn code k1 s1 (([40, 60, 61, 100, 101, 20000, -1, 20001] : List Int).take B.toNat) hc (by omega) (by omega) (by omega)) rfl rfl rfl ?_
  rintro _ _ ⟨z, k2, s2, rfl, rfl, hk2, hk2', hz⟩
  have hz' := List.mem_of_mem_take hz
  repeat' (first
      | (simp only [onC_true, ↓wA, ↓wC, wB, frzBE, frzBS, Nat.reduceEqDiff, Nat.reduceAdd, Nat.reduceSub, reduceIte, reduceCtorEq, Nat.reduceBEq, Nat.reduceLT, decide_true])
      | (refine execG_split (fun h => ?_) (fun h => ?_) <;> simp only [h])
      | (refine execC_split (fun h => ?_) (fun h => ?_) <;> (try simp only [h]))
      | (refine onPick_split (fun h => ?_) (fun h => ?_) <;> (try simp only [h])))
  refine ⟨z, k2, s2, rfl, rfl, by omega, by omega, ?_⟩
  simp only [List.mem_cons, List.not_mem_nil, or_false] at hz'
  omega
theorem parties_fn (code : List UInt8) (k : Nat) (seed : Int) (hc : code.length ≤ 1048576) (hk : k ≤ 999999999900) : FnM prog 108 true (curD code k seed) []
    (fun x' rs => ∃ (v : List Int) (k' : Nat) (seed' : Int), x' = curD code k' seed' ∧ rs = [.sl true 1 (dl iD v)] ∧ k ≤ k' ∧ k' ≤ k + 60 ∧ v.length ≤ 12) := by
  refine FnM_of' (fn := f108) (by exact func108) c108 r108 (n := 47) (by rfl) (rv := [.tmp 2]) (by rfl) (by decide) (by simp) ?_
  unfold m108
  repeat' (first
      | (simp only [onC_true, ↓wA, ↓wC, wB, frzBE, frzBS, Nat.reduceEqDiff, Nat.reduceAdd, Nat.reduceSub, reduceIte, reduceCtorEq, Nat.reduceBEq, Nat.reduceLT, decide_true])
      | (refine execG_split (fun h => ?_) (fun h => ?_) <;> simp only [h])
      | (refine execC_split (fun h => ?_) (fun h => ?_) <;> (try simp only [h]))
      | (refine onPick_split (fun h => ?_) (fun h => ?_) <;> (try simp only [h])))
  refine callM_rel (pick_fn code k seed 4 hc (by omega)) rfl rfl rfl ?_
  rintro _ _ ⟨n0, k1, s1, rfl, rfl, hk1, hk1', hn0, hn0'⟩
  repeat' (first
      | (simp only [onC_true, ↓wA, ↓wC, wB, frzBE, frzBS, Nat.reduceEqDiff, Nat.reduceAdd, Nat.reduceSub, reduceIte, reduceCtorEq, Nat.reduceBEq, Nat.reduceLT, decide_true])
      | (refine execG_split (fun h => ?_) (fun h => ?_) <;> simp only [h])
      | (refine execC_split (fun h => ?_) (fun h => ?_) <;> (try simp only [h]))
      | (refine onPick_split (fun h => ?_) (fun h => ?_) <;> (try simp only [h])))
  refine exec_loop (fun x : Nat × Int × List Int × Nat × Int => ⟨[(0, .ptr 0 0 []), (3, .own 1), (4, .d (.int .i64 x.2.1)), (5, .d (.int .i64 x.1))], [.box (curD code x.2.2.2.1 x.2.2.2.2), .val (.sl true 1 (dl iD x.2.2.1))]⟩)
    (fun x => x.1 + x.2.2.1.length ≤ 3 ∧ 0 ≤ x.2.1 ∧ x.2.1 ≤ 3 * x.2.2.1.length ∧ k ≤ x.2.2.2.1 ∧ x.2.2.2.1 ≤ k + 2 + 2 * x.2.2.1.length) (fun x => x.1) (n0.toNat, 0, [], k1, s1)
    (weak_of _ rfl ⟨⟨rfl, rfl⟩, ⟨rfl, rfl⟩, ⟨rfl, rfl⟩, ⟨by show SV.d (.int .i64 n0) = SV.d (.int .i64 (n0.toNat : Int)); rw [Int.toNat_of_nonneg hn0], rfl⟩, trivial⟩) ⟨by simp; omega, by simp, by simp, hk1, by simp; omega⟩ ?_
  rintro ⟨n, p, v, k2, s2⟩ ⟨i1, i2, i3, i4, i5⟩
  simp only at i1 i2 i3 i4 i5 ⊢
  cases n with
  | succ n =>
    have hd : decide ((0 : Int) < ((n + 1 : Nat) : Int)) = true := decide_eq_true (by omega)
    repeat' (first
        | (simp only [hd, ↓wA, ↓wC, wB, frzBE, frzBS, Nat.reduceEqDiff, Nat.reduceAdd, Nat.reduceSub, reduceIte, reduceCtorEq, Nat.reduceBEq, Nat.reduceLT, decide_true])
        | (with_reducible refine onI_bare ?_ ?_; focus (simp only [InR]; omega))
        | (refine execG_split (fun h => ?_) (fun h => ?_) <;> simp only [h])
        | (refine execC_split (fun h => ?_) (fun h => ?_) <;> (try simp only [h]))
        | (refine onPick_split (fun h => ?_) (fun h => ?_) <;> (try simp only [h])))
    refine callM_rel (pick_fn code k2 s2 3 hc (by omega)) rfl rfl rfl ?_
    rintro _ _ ⟨m, k3, s3, rfl, rfl, hk3, hk3', hm, hm'⟩
    repeat' (first
        | (simp only [hd, dl_len, ap_int, onC_true, ↓wA, ↓wC, wB, frzBE, frzBS, Nat.reduceEqDiff, Nat.reduceAdd, Nat.reduceSub, reduceIte, reduceCtorEq, Nat.reduceBEq, Nat.reduceLT, decide_true])
        | (with_reducible refine onC_i ?_ ?_; focus omega)
        | (with_reducible refine onC_i ?_ ?_; focus (simp; done))
        | (with_reducible refine onI_bare ?_ ?_; focus (simp only [InR]; omega))
        | (refine execG_split (fun h => ?_) (fun h => ?_) <;> simp only [h])
        | (refine execC_split (fun h => ?_) (fun h => ?_) <;> (try simp only [h]))
        | (refine onPick_split (fun h => ?_) (fun h => ?_) <;> (try simp only [h])))
    refine ⟨(n, p + 1 + m, v ++ [p + 1 + m], k3, s3), weak_of _ rfl ⟨⟨rfl, rfl⟩, ⟨rfl, rfl⟩, ⟨rfl, rfl⟩, ⟨?_, rfl⟩, trivial⟩, ⟨by simp; omega, by simp; omega, by simp; omega, by simp; omega, by simp; omega⟩, by simp⟩
    show SV.d (.int .i64 (((n + 1 : Nat) : Int) - 1)) = SV.d (.int .i64 (n : Int))
    exact congrArg (fun n => SV.d (.int .i64 n)) (by omega)
  | zero =>
    have hd : decide ((0 : Int) < ((0 : Nat) : Int)) = false := rfl
    repeat' (first
        | (simp only [hd, ↓wA, ↓wC, wB, frzBE, frzBS, Nat.reduceEqDiff, Nat.reduceAdd, Nat.reduceSub, reduceIte, reduceCtorEq, Nat.reduceBEq, Nat.reduceLT, decide_true])
        | (refine execG_split (fun h => ?_) (fun h => ?_) <;> simp only [h])
        | (refine execC_split (fun h => ?_) (fun h => ?_) <;> (try simp only [h]))
        | (refine onPick_split (fun h => ?_) (fun h => ?_) <;> (try simp only [h])))
    refine callM_rel (pick_fn code k2 s2 40 hc (by omega)) rfl rfl rfl ?_
    rintro _ _ ⟨m, k3, s3, rfl, rfl, hk3, hk3', hm, hm'⟩
    repeat' (first
        | (simp only [hd, ↓wA, ↓wC, wB, frzBE, frzBS, Nat.reduceEqDiff, Nat.reduceAdd, Nat.reduceSub, reduceIte, reduceCtorEq, Nat.reduceBEq, Nat.reduceLT, decide_true])
        | (refine execG_split (fun h => ?_) (fun h => ?_) <;> simp only [h])
        | (refine execC_split (fun h => ?_) (fun h => ?_) <;> (try simp only [h]))
        | (refine onPick_split (fun h => ?_) (fun h => ?_) <;> (try simp only [h])))
    · skip
      refine call_frz 2 ?_
      simp only [frz1, frzE, frzS, D.unown, ↓wA, ↓wC, wB, frzBE, frzBS, Nat.reduceEqDiff, Nat.reduceAdd, Nat.reduceSub, reduceIte, reduceCtorEq, Nat.reduceBEq, Nat.reduceLT, decide_true]
      refine callM_rel (among_fn code k3 s3 [0, 50, 51, 1] hc (by omega) (by decide) (by decide)) rfl rfl rfl ?_
      rintro _ _ ⟨z, k4, s4, rfl, rfl, hk4, hk4', hmz⟩
      repeat' (first
          | (simp only [dl_len, ap_int, onC_true, ↓wA, ↓wC, wB, frzBE, frzBS, Nat.reduceEqDiff, Nat.reduceAdd, Nat.reduceSub, reduceIte, reduceCtorEq, Nat.reduceBEq, Nat.reduceLT, decide_true])
          | (with_reducible refine onC_i ?_ ?_; focus omega)
          | (with_reducible refine onC_i ?_ ?_; focus (simp; done))
          | (with_reducible refine onI_bare ?_ ?_; focus (simp only [InR]; omega))
          | (refine execG_split (fun h => ?_) (fun h => ?_) <;> simp only [h])
          | (refine execC_split (fun h => ?_) (fun h => ?_) <;> (try simp only [h]))
          | (refine onPick_split (fun h => ?_) (fun h => ?_) <;> (try simp only [h])))
      all_goals exact ⟨_, k4, s4, rfl, rfl, by omega, by omega, by simp; omega⟩
    · refine exec_loop (fun x : Int × List Int × Nat × Int => ⟨[(0, .ptr 0 0 []), (3, .own 1), (4, .d (.int .i64 x.1))], [.box (curD code x.2.2.1 x.2.2.2), .val (.sl true 1 (dl iD x.2.1))]⟩)
        (fun x => x.2.1.length ≤ 7 ∧ 0 ≤ x.1 ∧ x.1 ≤ 9 + 3 * x.2.1.length ∧ k ≤ x.2.2.1 ∧ x.2.2.1 ≤ k + 16 + 2 * x.2.1.length) (fun x => 10 - x.2.1.length) (p, v, k3, s3) (weak_of _ rfl ⟨⟨rfl, rfl⟩, ⟨rfl, rfl⟩, ⟨rfl, rfl⟩, trivial⟩) ⟨by simp; omega, i2, by simp; omega, by simp; omega, by simp; omega⟩ ?_
      rintro ⟨p, v, k4, s4⟩ ⟨j1, j2, j3, j4, j5⟩
      simp only at j1 j2 j3 j4 j5 ⊢
      repeat' (first
          | (simp only [dl_len, ↓wA, ↓wC, wB, frzBE, frzBS, Nat.reduceEqDiff, Nat.reduceAdd, Nat.reduceSub, reduceIte, reduceCtorEq, Nat.reduceBEq, Nat.reduceLT, decide_true])
          | (refine execG_split (fun h => ?_) (fun h => ?_) <;> simp only [h])
          | (refine execC_split (fun h => ?_) (fun h => ?_) <;> (try simp only [h]))
          | (refine onPick_split (fun h => ?_) (fun h => ?_) <;> (try simp only [h])))
      refine callM_rel (pick_fn code k4 s4 2 hc (by omega)) rfl rfl rfl ?_
      rintro _ _ ⟨q, k5, s5, rfl, rfl, hk5, hk5', hq, hq'⟩
      repeat' (first
          | (simp only [dl_len, ap_int, onC_true, ↓wA, ↓wC, wB, frzBE, frzBS, Nat.reduceEqDiff, Nat.reduceAdd, Nat.reduceSub, reduceIte, reduceCtorEq, Nat.reduceBEq, Nat.reduceLT, decide_true])
          | (with_reducible refine onC_i ?_ ?_; focus omega)
          | (with_reducible refine onC_i ?_ ?_; focus (simp; done))
          | (with_reducible refine onI_bare ?_ ?_; focus (simp only [InR]; omega))
          | (refine execG_split (fun h => ?_) (fun h => ?_) <;> simp only [h])
          | (refine execC_split (fun h => ?_) (fun h => ?_) <;> (try simp only [h]))
          | (refine onPick_split (fun h => ?_) (fun h => ?_) <;> (try simp only [h])))
      · have hlt := of_decide_eq_true h
        refine ⟨(p + 1, v ++ [p + 1], k5, s5), (weak_of _ rfl ⟨⟨rfl, rfl⟩, ⟨rfl, rfl⟩, ⟨rfl, rfl⟩, trivial⟩), ⟨by simp; omega, by simp; omega, by simp; omega, by simp; omega, by simp; omega⟩, by simp; omega⟩
      · exact ⟨v, k5, s5, rfl, rfl, by omega, by omega, by omega⟩
    · exact ⟨v, k3, s3, rfl, rfl, by omega, by omega, by omega⟩
end Go.Pe.Try

set_option maxRecDepth 100000
set_option maxHeartbeats 4000000
set_option linter.all false
namespace Go.Pe.Try
open Go.Proofs.Try
/-- an appeal in the making. -/
def App.w (x : App) : D := x.p (.sl false 1 (dl iD x.a)) (.sl true 1 (dl iD x.h))
theorem appeal_fn (code : List UInt8) (k : Nat) (seed id : Int) (hc : code.length ≤ 1048576) (hk : k ≤ 999999999000) : FnM prog 110 true (curD code k seed) [.int .i64 id]
    (fun x' rs => ∃ (x : App) (k' : Nat) (seed' : Int), x' = curD code k' seed' ∧ rs = [x.d'] ∧ k ≤ k' ∧ k' ≤ k + 200 ∧ x.a.length ≤ 12 ∧ x.h.length ≤ 13) := by
  refine FnM_ofg (ps := [[1, 1, 1, 1, 1, 0, 1, 0, 1, 1, 1, 1, 1, 1, 1, 0], [1, 1, 0, 1, 0, 0, 1, 0, 0, 1, 0], [1, 1, 1, 1, 1, 0, 0], [1, 1, 1, 1, 1, 1, 0], [1, 1, 1, 1, 0, 0], [1, 1, 0, 1, 0]]) (fn := f110) (by exact func110) c110 r110 (n := 88) (by rfl) (rv := [.cell 4 66]) (by rfl) (by decide) (by simp) ?_
  unfold m110
  simp only [ghAll, ghAt]
  repeat' (first
      | (simp only [onC_true, ↓wA, ↓wC, wB, frzBE, frzBS, Nat.reduceEqDiff, Nat.reduceAdd, Nat.reduceSub, reduceIte, reduceCtorEq, Nat.reduceBEq, Nat.reduceLT, decide_true, sz66])
      | (refine execG_split (fun h => ?_) (fun h => ?_) <;> simp only [h])
      | (refine execC_split (fun h => ?_) (fun h => ?_) <;> (try simp only [h]))
      | (refine onPick_split (fun h => ?_) (fun h => ?_) <;> (try simp only [h])))
  refine call_frz 2 ?_
  simp only [frz1, frzE, frzS, D.unown, ↓wA, ↓wC, wB, frzBE, frzBS, Nat.reduceEqDiff, Nat.reduceAdd, Nat.reduceSub, reduceIte, reduceCtorEq, Nat.reduceBEq, Nat.reduceLT, decide_true, sz66]
  refine callM_rel (among_fn code k seed [1, 2, 3, 7, 999] hc (by omega) (by decide) (by decide)) rfl rfl rfl ?_
  rintro _ _ ⟨q, k1, s1, rfl, rfl, hk1, hk1', hmq⟩
  repeat' (first
      | (simp only [onC_true, ↓wA, ↓wC, wB, frzBE, frzBS, Nat.reduceEqDiff, Nat.reduceAdd, Nat.reduceSub, reduceIte, reduceCtorEq, Nat.reduceBEq, Nat.reduceLT, decide_true, sz66])
      | (refine execG_split (fun h => ?_) (fun h => ?_) <;> simp only [h])
      | (refine execC_split (fun h => ?_) (fun h => ?_) <;> (try simp only [h]))
      | (refine onPick_split (fun h => ?_) (fun h => ?_) <;> (try simp only [h])))
  refine call_frz 3 ?_
  simp only [frz1, frzE, frzS, D.unown, ↓wA, ↓wC, wB, frzBE, frzBS, Nat.reduceEqDiff, Nat.reduceAdd, Nat.reduceSub, reduceIte, reduceCtorEq, Nat.reduceBEq, Nat.reduceLT, decide_true, sz66]
  refine callM_rel (among_fn code k1 s1 [0, 40, 40, 100, 19950] hc (by omega) (by decide) (by decide)) rfl rfl rfl ?_
  rintro _ _ ⟨d, k2, s2, rfl, rfl, hk2, hk2', hmd⟩
  repeat' (first
      | (simp only [onC_true, ↓wA, ↓wC, wB, frzBE, frzBS, Nat.reduceEqDiff, Nat.reduceAdd, Nat.reduceSub, reduceIte, reduceCtorEq, Nat.reduceBEq, Nat.reduceLT, decide_true, sz66])
      | (refine execG_split (fun h => ?_) (fun h => ?_) <;> simp only [h])
      | (refine execC_split (fun h => ?_) (fun h => ?_) <;> (try simp only [h]))
      | (refine onPick_split (fun h => ?_) (fun h => ?_) <;> (try simp only [h])))
  refine callM_rel (parties_fn code k2 s2 hc (by omega)) rfl rfl rfl ?_
  rintro _ _ ⟨v, k3, s3, rfl, rfl, hk3, hk3', hv⟩
  repeat' (first
      | (simp only [onC_true, ↓wA, ↓wC, wB, frzBE, frzBS, Nat.reduceEqDiff, Nat.reduceAdd, Nat.reduceSub, reduceIte, reduceCtorEq, Nat.reduceBEq, Nat.reduceLT, decide_true, sz66])
      | (refine execG_split (fun h => ?_) (fun h => ?_) <;> simp only [h])
      | (refine execC_split (fun h => ?_) (fun h => ?_) <;> (try simp only [h]))
      | (refine onPick_split (fun h => ?_) (fun h => ?_) <;> (try simp only [h])))
  refine exec_gh1 (freeze 6 none [3] rfl rfl rfl) ?_
  simp only [obSet, D.unown, ints_unown, ↓wA, ↓wC, wB, frzBE, frzBS, Nat.reduceEqDiff, Nat.reduceAdd, Nat.reduceSub, reduceIte, reduceCtorEq, Nat.reduceBEq, Nat.reduceLT, decide_true, sz66]
  refine exec_loop (fun x : Nat × List Int × Nat × Int => ⟨[(0, .ptr 0 0 []), (4, .ptr 1 0 []), (5, .ptr 6 0 []), (6, .d (.int .i64 x.1))], [.box (curD code x.2.2.1 x.2.2.2), .box (App.o ⟨0, 0, 0, [], [], 0⟩), .dead, .dead, .dead, .dead, .box (App.w ⟨id, q, d, v, x.2.1, 0⟩)]⟩)
    (fun x => x.1 ≤ v.length ∧ x.2.1.length ≤ x.1 ∧ k ≤ x.2.2.1 ∧ x.2.2.1 ≤ k + 70 + 2 * x.1) (fun x => v.length - x.1) (0, [], k3, s3) (weak_of _ rfl ⟨⟨rfl, rfl⟩, ⟨rfl, rfl⟩, ⟨rfl, rfl⟩, ⟨rfl, rfl⟩, trivial⟩) ⟨by simp, by simp, by simp; omega, by simp; omega⟩ ?_
  rintro ⟨i, hs, k4, s4⟩ ⟨i1, i2, i3, i4⟩
  simp only at i1 i2 i3 i4 ⊢
  have h0 : (0 : Int) ≤ (i : Int) := by omega
  by_cases hlt : i < v.length
  · obtain ⟨r, hr⟩ := get_lt hlt
    have hd : decide ((i : Int) < (v.length : Int)) = true := decide_eq_true (by omega)
    repeat' (first
        | (simp only [App.w, dl_len, hd, ints_noOwn, dget_p3, doff_p3, onC_true, ↓wA, ↓wC, wB, frzBE, frzBS, Nat.reduceEqDiff, Nat.reduceAdd, Nat.reduceSub, reduceIte, reduceCtorEq, Nat.reduceBEq, Nat.reduceLT, decide_true, sz66])
        | (refine execG_split (fun h => ?_) (fun h => ?_) <;> simp only [h])
        | (refine execC_split (fun h => ?_) (fun h => ?_) <;> (try simp only [h]))
        | (refine onPick_split (fun h => ?_) (fun h => ?_) <;> (try simp only [h])))
    refine callM_rel (one_fn code k4 s4 2 hc (by omega)) rfl rfl rfl ?_
    rintro _ _ ⟨b, k5, s5, rfl, rfl, hk5, hk5'⟩
    repeat' (first
        | (simp only [App.w, onC_true, ↓wA, ↓wC, wB, frzBE, frzBS, Nat.reduceEqDiff, Nat.reduceAdd, Nat.reduceSub, reduceIte, reduceCtorEq, Nat.reduceBEq, Nat.reduceLT, decide_true, sz66])
        | (refine execG_split (fun h => ?_) (fun h => ?_) <;> simp only [h])
        | (refine execC_split (fun h => ?_) (fun h => ?_) <;> (try simp only [h]))
        | (refine onPick_split (fun h => ?_) (fun h => ?_) <;> (try simp only [h])))
    · refine exec_gh _ (unlink 6 none [4] (es := 1) (xs := dl iD hs) rfl rfl) fun u => ?_
      simp only [obSet, ↓wA, ↓wC, wB, frzBE, frzBS, Nat.reduceEqDiff, Nat.reduceAdd, Nat.reduceSub, reduceIte, reduceCtorEq, Nat.reduceBEq, Nat.reduceLT, decide_true, sz66]
      repeat' (first
          | (simp only [App.w, dl_len, dl_nth, hr, h0, Int.toNat_natCast, Option.map_some, rd_iD, ap_int, ints_noOwn, dget_p3, doff_p3, dget_p4, doff_p4, dset_p4, onC_true, ↓wA, ↓wC, wB, frzBE, frzBS, Nat.reduceEqDiff, Nat.reduceAdd, Nat.reduceSub, reduceIte, reduceCtorEq, Nat.reduceBEq, Nat.reduceLT, decide_true, sz66])
          | (refine onJ_q ?_)
          | (with_reducible refine onC_i ?_ ?_; focus omega)
          | (with_reducible refine onC_i ?_ ?_; focus (simp; done))
          | (with_reducible refine onI_bare ?_ ?_; focus (simp only [InR]; omega))
          | (refine execG_split (fun h => ?_) (fun h => ?_) <;> simp only [h])
          | (refine execC_split (fun h => ?_) (fun h => ?_) <;> (try simp only [h]))
          | (refine onPick_split (fun h => ?_) (fun h => ?_) <;> (try simp only [h])))
      refine ⟨(i + 1, hs ++ [r], k5, s5), (weak_of _ rfl ⟨⟨rfl, rfl⟩, ⟨rfl, rfl⟩, ⟨rfl, rfl⟩, ⟨rfl, rfl⟩, trivial⟩), ⟨by simp; omega, by simp; omega, by simp; omega, by simp; omega⟩, by simp; omega⟩
    · repeat' (first
     | (simp only [App.w, ↓wA, ↓wC, wB, frzBE, frzBS, Nat.reduceEqDiff, Nat.reduceAdd, Nat.reduceSub, reduceIte, reduceCtorEq, Nat.reduceBEq, Nat.reduceLT, decide_true, sz66])
     | (with_reducible refine onI_bare ?_ ?_; focus (simp only [InR]; omega))
     | (refine execG_split (fun h => ?_) (fun h => ?_) <;> simp only [h])
     | (refine execC_split (fun h => ?_) (fun h => ?_) <;> (try simp only [h]))
     | (refine onPick_split (fun h => ?_) (fun h => ?_) <;> (try simp only [h])))
      exact ⟨(i + 1, hs, k5, s5), (weak_of _ rfl ⟨⟨rfl, rfl⟩, ⟨rfl, rfl⟩, ⟨rfl, rfl⟩, ⟨rfl, rfl⟩, trivial⟩), ⟨by simp; omega, by simp; omega, by simp; omega, by simp; omega⟩, by simp; omega⟩
  · have hd : decide ((i : Int) < (v.length : Int)) = false := decide_eq_false (by omega)
    repeat' (first
        | (simp only [App.w, dl_len, hd, ints_noOwn, dget_p3, doff_p3, onC_true, ↓wA, ↓wC, wB, frzBE, frzBS, Nat.reduceEqDiff, Nat.reduceAdd, Nat.reduceSub, reduceIte, reduceCtorEq, Nat.reduceBEq, Nat.reduceLT, decide_true, sz66])
        | (refine execG_split (fun h => ?_) (fun h => ?_) <;> simp only [h])
        | (refine execC_split (fun h => ?_) (fun h => ?_) <;> (try simp only [h]))
        | (refine onPick_split (fun h => ?_) (fun h => ?_) <;> (try simp only [h])))
    refine call_frz 7 ?_
    simp only [frz1, frzE, frzS, D.unown, ↓wA, ↓wC, wB, frzBE, frzBS, Nat.reduceEqDiff, Nat.reduceAdd, Nat.reduceSub, reduceIte, reduceCtorEq, Nat.reduceBEq, Nat.reduceLT, decide_true, sz66]
    refine callM_rel (among_fn code k4 s4 [0, 0, 0, 4] hc (by omega) (by decide) (by decide)) rfl rfl rfl ?_
    rintro _ _ ⟨z, k5, s5, rfl, rfl, hk5, hk5', hmz⟩
    repeat' (first
        | (simp only [App.w, dset_p5, doff_p5, dget_p5, onC_true, ↓wA, ↓wC, wB, frzBE, frzBS, Nat.reduceEqDiff, Nat.reduceAdd, Nat.reduceSub, reduceIte, reduceCtorEq, Nat.reduceBEq, Nat.reduceLT, decide_true, sz66])
        | (refine execG_split (fun h => ?_) (fun h => ?_) <;> simp only [h])
        | (refine execC_split (fun h => ?_) (fun h => ?_) <;> (try simp only [h]))
        | (refine onPick_split (fun h => ?_) (fun h => ?_) <;> (try simp only [h])))
    refine exec_gh _ (unlink 6 none [4] (es := 1) (xs := dl iD hs) rfl rfl) fun u => ?_
    simp only [obSet, dset_p4, ↓wA, ↓wC, wB, frzBE, frzBS, Nat.reduceEqDiff, Nat.reduceAdd, Nat.reduceSub, reduceIte, reduceCtorEq, Nat.reduceBEq, Nat.reduceLT, decide_true, sz66]
    repeat' (first
        | (simp only [dl_len, ints_noOwn, dget_p3, doff_p3, dget_p4, doff_p4, onC_true, ↓wA, ↓wC, wB, frzBE, frzBS, Nat.reduceEqDiff, Nat.reduceAdd, Nat.reduceSub, reduceIte, reduceCtorEq, Nat.reduceBEq, Nat.reduceLT, decide_true, sz66])
        | (refine execG_split (fun h => ?_) (fun h => ?_) <;> simp only [h])
        | (refine execC_split (fun h => ?_) (fun h => ?_) <;> (try simp only [h]))
        | (refine onPick_split (fun h => ?_) (fun h => ?_) <;> (try simp only [h])))
    · skip
      refine callM_rel (pick_fn code k5 s5 3 hc (by omega)) rfl rfl rfl ?_
      rintro _ _ ⟨y0, k6, s6, rfl, rfl, hk6, hk6', hy0, hy0'⟩
      repeat' (first
          | (simp only [dset_p5, doff_p5, dget_p5, onC_true, ↓wA, ↓wC, wB, frzBE, frzBS, Nat.reduceEqDiff, Nat.reduceAdd, Nat.reduceSub, reduceIte, reduceCtorEq, Nat.reduceBEq, Nat.reduceLT, decide_true, sz66])
          | (with_reducible refine onI_bare ?_ ?_; focus (simp only [InR]; omega))
          | (refine execG_split (fun h => ?_) (fun h => ?_) <;> simp only [h])
          | (refine execC_split (fun h => ?_) (fun h => ?_) <;> (try simp only [h]))
          | (refine onPick_split (fun h => ?_) (fun h => ?_) <;> (try simp only [h])))
      refine exec_gh1 (relink 6 9 8 none [4] rfl rfl rfl rfl (by decide) rfl) ?_
      simp only [obSet, dset_p4, ↓wA, ↓wC, wB, frzBE, frzBS, Nat.reduceEqDiff, Nat.reduceAdd, Nat.reduceSub, reduceIte, reduceCtorEq, Nat.reduceBEq, Nat.reduceLT, decide_true, sz66]
      refine callM_rel (pick_fn code k6 s6 80 hc (by omega)) rfl rfl rfl ?_
      rintro _ _ ⟨y, k8, s8, rfl, rfl, hk8, hk8', hy, hy'⟩
      repeat' (first
          | (simp only [onC_true, ↓wA, ↓wC, wB, frzBE, frzBS, Nat.reduceEqDiff, Nat.reduceAdd, Nat.reduceSub, reduceIte, reduceCtorEq, Nat.reduceBEq, Nat.reduceLT, decide_true, sz66])
          | (refine execG_split (fun h => ?_) (fun h => ?_) <;> simp only [h])
          | (refine execC_split (fun h => ?_) (fun h => ?_) <;> (try simp only [h]))
          | (refine onPick_split (fun h => ?_) (fun h => ?_) <;> (try simp only [h])))
      · skip
        refine call_frz 10 ?_
        simp only [frz1, frzE, frzS, D.unown, ↓wA, ↓wC, wB, frzBE, frzBS, Nat.reduceEqDiff, Nat.reduceAdd, Nat.reduceSub, reduceIte, reduceCtorEq, Nat.reduceBEq, Nat.reduceLT, decide_true, sz66]
        refine callM_rel (among_fn code k8 s8 [0, 999, 1000] hc (by omega) (by decide) (by decide)) rfl rfl rfl ?_
        rintro _ _ ⟨z2, k9, s9, rfl, rfl, hk9, hk9', hmz2⟩
        repeat' (first
            | (simp only [dset_p0, doff_p0, dget_p0, onC_true, ↓wA, ↓wC, wB, frzBE, frzBS, Nat.reduceEqDiff, Nat.reduceAdd, Nat.reduceSub, reduceIte, reduceCtorEq, Nat.reduceBEq, Nat.reduceLT, decide_true, sz66])
            | (refine execG_split (fun h => ?_) (fun h => ?_) <;> simp only [h])
            | (refine execC_split (fun h => ?_) (fun h => ?_) <;> (try simp only [h]))
            | (refine onPick_split (fun h => ?_) (fun h => ?_) <;> (try simp only [h])))
        refine exec_gh1 (freeze 6 none [4] rfl rfl rfl) ?_
        simp only [obSet, dset_p4, D.unown, ints_unown, ↓wA, ↓wC, wB, frzBE, frzBS, Nat.reduceEqDiff, Nat.reduceAdd, Nat.reduceSub, reduceIte, reduceCtorEq, Nat.reduceBEq, Nat.reduceLT, decide_true, sz66]
        repeat' (first
            | (simp only [onC_true, rd_p, size_p, isV_p, noOwn_p, ints_noOwn, App.o, ↓wA, ↓wC, wB, frzBE, frzBS, Nat.reduceEqDiff, Nat.reduceAdd, Nat.reduceSub, reduceIte, reduceCtorEq, Nat.reduceBEq, Nat.reduceLT, decide_true, sz66])
            | (refine execG_split (fun h => ?_) (fun h => ?_) <;> simp only [h])
            | (refine execC_split (fun h => ?_) (fun h => ?_) <;> (try simp only [h]))
            | (refine onPick_split (fun h => ?_) (fun h => ?_) <;> (try simp only [h])))
        refine onC_i rfl ?_
        exact ⟨_, rfl, ⟨⟨z2, q, d, v, hs, 1 + y0⟩, k9, _, rfl, rfl, by omega, by omega, hv, by simp; omega⟩⟩
      · skip
        refine call_frz 10 ?_
        simp only [frz1, frzE, frzS, D.unown, ↓wA, ↓wC, wB, frzBE, frzBS, Nat.reduceEqDiff, Nat.reduceAdd, Nat.reduceSub, reduceIte, reduceCtorEq, Nat.reduceBEq, Nat.reduceLT, decide_true, sz66]
        refine callM_rel (among_fn code k8 s8 [0, 1000] hc (by omega) (by decide) (by decide)) rfl rfl rfl ?_
        rintro _ _ ⟨z2, k9, s9, rfl, rfl, hk9, hk9', hmz2⟩
        repeat' (first
            | (simp only [dset_p1, doff_p1, dget_p1, onC_true, ↓wA, ↓wC, wB, frzBE, frzBS, Nat.reduceEqDiff, Nat.reduceAdd, Nat.reduceSub, reduceIte, reduceCtorEq, Nat.reduceBEq, Nat.reduceLT, decide_true, sz66])
            | (refine execG_split (fun h => ?_) (fun h => ?_) <;> simp only [h])
            | (refine execC_split (fun h => ?_) (fun h => ?_) <;> (try simp only [h]))
            | (refine onPick_split (fun h => ?_) (fun h => ?_) <;> (try simp only [h])))
        refine exec_gh1 (freeze 6 none [4] rfl rfl rfl) ?_
        simp only [obSet, dset_p4, D.unown, ints_unown, ↓wA, ↓wC, wB, frzBE, frzBS, Nat.reduceEqDiff, Nat.reduceAdd, Nat.reduceSub, reduceIte, reduceCtorEq, Nat.reduceBEq, Nat.reduceLT, decide_true, sz66]
        repeat' (first
            | (simp only [onC_true, rd_p, size_p, isV_p, noOwn_p, ints_noOwn, App.o, ↓wA, ↓wC, wB, frzBE, frzBS, Nat.reduceEqDiff, Nat.reduceAdd, Nat.reduceSub, reduceIte, reduceCtorEq, Nat.reduceBEq, Nat.reduceLT, decide_true, sz66])
            | (refine execG_split (fun h => ?_) (fun h => ?_) <;> simp only [h])
            | (refine execC_split (fun h => ?_) (fun h => ?_) <;> (try simp only [h]))
            | (refine onPick_split (fun h => ?_) (fun h => ?_) <;> (try simp only [h])))
        refine onC_i rfl ?_
        exact ⟨_, rfl, ⟨⟨id, z2, d, v, hs, 1 + y0⟩, k9, _, rfl, rfl, by omega, by omega, hv, by simp; omega⟩⟩
      · skip
        refine call_frz 10 ?_
        simp only [frz1, frzE, frzS, D.unown, ↓wA, ↓wC, wB, frzBE, frzBS, Nat.reduceEqDiff, Nat.reduceAdd, Nat.reduceSub, reduceIte, reduceCtorEq, Nat.reduceBEq, Nat.reduceLT, decide_true, sz66]
        refine callM_rel (among_fn code k8 s8 [-1, 20001] hc (by omega) (by decide) (by decide)) rfl rfl rfl ?_
        rintro _ _ ⟨z2, k9, s9, rfl, rfl, hk9, hk9', hmz2⟩
        repeat' (first
            | (simp only [dset_p2, doff_p2, dget_p2, onC_true, ↓wA, ↓wC, wB, frzBE, frzBS, Nat.reduceEqDiff, Nat.reduceAdd, Nat.reduceSub, reduceIte, reduceCtorEq, Nat.reduceBEq, Nat.reduceLT, decide_true, sz66])
            | (refine execG_split (fun h => ?_) (fun h => ?_) <;> simp only [h])
            | (refine execC_split (fun h => ?_) (fun h => ?_) <;> (try simp only [h]))
            | (refine onPick_split (fun h => ?_) (fun h => ?_) <;> (try simp only [h])))
        refine exec_gh1 (freeze 6 none [4] rfl rfl rfl) ?_
        simp only [obSet, dset_p4, D.unown, ints_unown, ↓wA, ↓wC, wB, frzBE, frzBS, Nat.reduceEqDiff, Nat.reduceAdd, Nat.reduceSub, reduceIte, reduceCtorEq, Nat.reduceBEq, Nat.reduceLT, decide_true, sz66]
        repeat' (first
            | (simp only [onC_true, rd_p, size_p, isV_p, noOwn_p, ints_noOwn, App.o, ↓wA, ↓wC, wB, frzBE, frzBS, Nat.reduceEqDiff, Nat.reduceAdd, Nat.reduceSub, reduceIte, reduceCtorEq, Nat.reduceBEq, Nat.reduceLT, decide_true, sz66])
            | (refine execG_split (fun h => ?_) (fun h => ?_) <;> simp only [h])
            | (refine execC_split (fun h => ?_) (fun h => ?_) <;> (try simp only [h]))
            | (refine onPick_split (fun h => ?_) (fun h => ?_) <;> (try simp only [h])))
        refine onC_i rfl ?_
        exact ⟨_, rfl, ⟨⟨id, q, z2, v, hs, 1 + y0⟩, k9, _, rfl, rfl, by omega, by omega, hv, by simp; omega⟩⟩
      · refine exec_gh _ (unlink 6 none [4] (es := 1) (xs := dl iD hs) rfl rfl) fun u2 => ?_
        simp only [obSet, dset_p4, ↓wA, ↓wC, wB, frzBE, frzBS, Nat.reduceEqDiff, Nat.reduceAdd, Nat.reduceSub, reduceIte, reduceCtorEq, Nat.reduceBEq, Nat.reduceLT, decide_true, sz66]
        repeat' (first
            | (simp only [dget_p4, doff_p4, dset_p4, onC_true, ↓wA, ↓wC, wB, frzBE, frzBS, Nat.reduceEqDiff, Nat.reduceAdd, Nat.reduceSub, reduceIte, reduceCtorEq, Nat.reduceBEq, Nat.reduceLT, decide_true, sz66])
            | (refine onJ_q ?_)
            | (refine execG_split (fun h => ?_) (fun h => ?_) <;> simp only [h])
            | (refine execC_split (fun h => ?_) (fun h => ?_) <;> (try simp only [h]))
            | (refine onPick_split (fun h => ?_) (fun h => ?_) <;> (try simp only [h])))
        refine call_frz 12 ?_
        simp only [frz1, frzE, frzS, D.unown, ↓wA, ↓wC, wB, frzBE, frzBS, Nat.reduceEqDiff, Nat.reduceAdd, Nat.reduceSub, reduceIte, reduceCtorEq, Nat.reduceBEq, Nat.reduceLT, decide_true, sz66]
        refine callM_rel (among_fn code k8 s8 [0, 49] hc (by omega) (by decide) (by decide)) rfl rfl rfl ?_
        rintro _ _ ⟨z2, k9, s9, rfl, rfl, hk9, hk9', hmz2⟩
        repeat' (first
            | (simp only [dl_len, ap_int, ints_noOwn, dget_p4, doff_p4, dset_p4, onC_true, ↓wA, ↓wC, wB, frzBE, frzBS, Nat.reduceEqDiff, Nat.reduceAdd, Nat.reduceSub, reduceIte, reduceCtorEq, Nat.reduceBEq, Nat.reduceLT, decide_true, sz66])
            | (with_reducible refine onC_i ?_ ?_; focus omega)
            | (with_reducible refine onC_i ?_ ?_; focus (simp; done))
            | (refine execG_split (fun h => ?_) (fun h => ?_) <;> simp only [h])
            | (refine execC_split (fun h => ?_) (fun h => ?_) <;> (try simp only [h]))
            | (refine onPick_split (fun h => ?_) (fun h => ?_) <;> (try simp only [h])))
        refine exec_gh1 (freeze 6 none [4] rfl rfl rfl) ?_
        simp only [obSet, dset_p4, D.unown, ints_unown, ↓wA, ↓wC, wB, frzBE, frzBS, Nat.reduceEqDiff, Nat.reduceAdd, Nat.reduceSub, reduceIte, reduceCtorEq, Nat.reduceBEq, Nat.reduceLT, decide_true, sz66]
        repeat' (first
            | (simp only [onC_true, rd_p, size_p, isV_p, noOwn_p, ints_noOwn, App.o, ↓wA, ↓wC, wB, frzBE, frzBS, Nat.reduceEqDiff, Nat.reduceAdd, Nat.reduceSub, reduceIte, reduceCtorEq, Nat.reduceBEq, Nat.reduceLT, decide_true, sz66])
            | (refine execG_split (fun h => ?_) (fun h => ?_) <;> simp only [h])
            | (refine execC_split (fun h => ?_) (fun h => ?_) <;> (try simp only [h]))
            | (refine onPick_split (fun h => ?_) (fun h => ?_) <;> (try simp only [h])))
        refine onC_i rfl ?_
        exact ⟨_, rfl, ⟨⟨id, q, d, v, hs ++ [z2], 1 + y0⟩, k9, _, rfl, rfl, by omega, by omega, hv, by simp; omega⟩⟩
      · skip
        refine call_frz 10 ?_
        simp only [frz1, frzE, frzS, D.unown, ↓wA, ↓wC, wB, frzBE, frzBS, Nat.reduceEqDiff, Nat.reduceAdd, Nat.reduceSub, reduceIte, reduceCtorEq, Nat.reduceBEq, Nat.reduceLT, decide_true, sz66]
        refine callM_rel (among_fn code k8 s8 [-1, 0, 2, 5] hc (by omega) (by decide) (by decide)) rfl rfl rfl ?_
        rintro _ _ ⟨z2, k9, s9, rfl, rfl, hk9, hk9', hmz2⟩
        repeat' (first
            | (simp only [dset_p5, doff_p5, dget_p5, onC_true, ↓wA, ↓wC, wB, frzBE, frzBS, Nat.reduceEqDiff, Nat.reduceAdd, Nat.reduceSub, reduceIte, reduceCtorEq, Nat.reduceBEq, Nat.reduceLT, decide_true, sz66])
            | (refine execG_split (fun h => ?_) (fun h => ?_) <;> simp only [h])
            | (refine execC_split (fun h => ?_) (fun h => ?_) <;> (try simp only [h]))
            | (refine onPick_split (fun h => ?_) (fun h => ?_) <;> (try simp only [h])))
        refine exec_gh1 (freeze 6 none [4] rfl rfl rfl) ?_
        simp only [obSet, dset_p4, D.unown, ints_unown, ↓wA, ↓wC, wB, frzBE, frzBS, Nat.reduceEqDiff, Nat.reduceAdd, Nat.reduceSub, reduceIte, reduceCtorEq, Nat.reduceBEq, Nat.reduceLT, decide_true, sz66]
        repeat' (first
            | (simp only [onC_true, rd_p, size_p, isV_p, noOwn_p, ints_noOwn, App.o, ↓wA, ↓wC, wB, frzBE, frzBS, Nat.reduceEqDiff, Nat.reduceAdd, Nat.reduceSub, reduceIte, reduceCtorEq, Nat.reduceBEq, Nat.reduceLT, decide_true, sz66])
            | (refine execG_split (fun h => ?_) (fun h => ?_) <;> simp only [h])
            | (refine execC_split (fun h => ?_) (fun h => ?_) <;> (try simp only [h]))
            | (refine onPick_split (fun h => ?_) (fun h => ?_) <;> (try simp only [h])))
        refine onC_i rfl ?_
        exact ⟨_, rfl, ⟨⟨id, q, d, v, hs, z2⟩, k9, _, rfl, rfl, by omega, by omega, hv, by simp; omega⟩⟩
      · skip
        refine exec_gh1 (freeze 6 none [4] rfl rfl rfl) ?_
        simp only [obSet, dset_p4, D.unown, ints_unown, ↓wA, ↓wC, wB, frzBE, frzBS, Nat.reduceEqDiff, Nat.reduceAdd, Nat.reduceSub, reduceIte, reduceCtorEq, Nat.reduceBEq, Nat.reduceLT, decide_true, sz66]
        repeat' (first
            | (simp only [onC_true, rd_p, size_p, isV_p, noOwn_p, ints_noOwn, App.o, ↓wA, ↓wC, wB, frzBE, frzBS, Nat.reduceEqDiff, Nat.reduceAdd, Nat.reduceSub, reduceIte, reduceCtorEq, Nat.reduceBEq, Nat.reduceLT, decide_true, sz66])
            | (refine execG_split (fun h => ?_) (fun h => ?_) <;> simp only [h])
            | (refine execC_split (fun h => ?_) (fun h => ?_) <;> (try simp only [h]))
            | (refine onPick_split (fun h => ?_) (fun h => ?_) <;> (try simp only [h])))
        refine onC_i rfl ?_
        exact ⟨_, rfl, ⟨⟨id, q, d, v, hs, 1 + y0⟩, k8, _, rfl, rfl, by omega, by omega, hv, by simp; omega⟩⟩
    · skip
      refine exec_gh1 (relink 6 9 8 none [4] rfl rfl rfl rfl (by decide) rfl) ?_
      simp only [obSet, dset_p4, ↓wA, ↓wC, wB, frzBE, frzBS, Nat.reduceEqDiff, Nat.reduceAdd, Nat.reduceSub, reduceIte, reduceCtorEq, Nat.reduceBEq, Nat.reduceLT, decide_true, sz66]
      refine callM_rel (pick_fn code k5 s5 80 hc (by omega)) rfl rfl rfl ?_
      rintro _ _ ⟨y, k8, s8, rfl, rfl, hk8, hk8', hy, hy'⟩
      repeat' (first
          | (simp only [onC_true, ↓wA, ↓wC, wB, frzBE, frzBS, Nat.reduceEqDiff, Nat.reduceAdd, Nat.reduceSub, reduceIte, reduceCtorEq, Nat.reduceBEq, Nat.reduceLT, decide_true, sz66])
          | (refine execG_split (fun h => ?_) (fun h => ?_) <;> simp only [h])
          | (refine execC_split (fun h => ?_) (fun h => ?_) <;> (try simp only [h]))
          | (refine onPick_split (fun h => ?_) (fun h => ?_) <;> (try simp only [h])))
      · skip
        refine call_frz 10 ?_
        simp only [frz1, frzE, frzS, D.unown, ↓wA, ↓wC, wB, frzBE, frzBS, Nat.reduceEqDiff, Nat.reduceAdd, Nat.reduceSub, reduceIte, reduceCtorEq, Nat.reduceBEq, Nat.reduceLT, decide_true, sz66]
        refine callM_rel (among_fn code k8 s8 [0, 999, 1000] hc (by omega) (by decide) (by decide)) rfl rfl rfl ?_
        rintro _ _ ⟨z2, k9, s9, rfl, rfl, hk9, hk9', hmz2⟩
        repeat' (first
            | (simp only [dset_p0, doff_p0, dget_p0, onC_true, ↓wA, ↓wC, wB, frzBE, frzBS, Nat.reduceEqDiff, Nat.reduceAdd, Nat.reduceSub, reduceIte, reduceCtorEq, Nat.reduceBEq, Nat.reduceLT, decide_true, sz66])
            | (refine execG_split (fun h => ?_) (fun h => ?_) <;> simp only [h])
            | (refine execC_split (fun h => ?_) (fun h => ?_) <;> (try simp only [h]))
            | (refine onPick_split (fun h => ?_) (fun h => ?_) <;> (try simp only [h])))
        refine exec_gh1 (freeze 6 none [4] rfl rfl rfl) ?_
        simp only [obSet, dset_p4, D.unown, ints_unown, ↓wA, ↓wC, wB, frzBE, frzBS, Nat.reduceEqDiff, Nat.reduceAdd, Nat.reduceSub, reduceIte, reduceCtorEq, Nat.reduceBEq, Nat.reduceLT, decide_true, sz66]
        repeat' (first
            | (simp only [onC_true, rd_p, size_p, isV_p, noOwn_p, ints_noOwn, App.o, ↓wA, ↓wC, wB, frzBE, frzBS, Nat.reduceEqDiff, Nat.reduceAdd, Nat.reduceSub, reduceIte, reduceCtorEq, Nat.reduceBEq, Nat.reduceLT, decide_true, sz66])
            | (refine execG_split (fun h => ?_) (fun h => ?_) <;> simp only [h])
            | (refine execC_split (fun h => ?_) (fun h => ?_) <;> (try simp only [h]))
            | (refine onPick_split (fun h => ?_) (fun h => ?_) <;> (try simp only [h])))
        refine onC_i rfl ?_
        exact ⟨_, rfl, ⟨⟨z2, q, d, v, hs, z⟩, k9, _, rfl, rfl, by omega, by omega, hv, by simp; omega⟩⟩
      · skip
        refine call_frz 10 ?_
        simp only [frz1, frzE, frzS, D.unown, ↓wA, ↓wC, wB, frzBE, frzBS, Nat.reduceEqDiff, Nat.reduceAdd, Nat.reduceSub, reduceIte, reduceCtorEq, Nat.reduceBEq, Nat.reduceLT, decide_true, sz66]
        refine callM_rel (among_fn code k8 s8 [0, 1000] hc (by omega) (by decide) (by decide)) rfl rfl rfl ?_
        rintro _ _ ⟨z2, k9, s9, rfl, rfl, hk9, hk9', hmz2⟩
        repeat' (first
            | (simp only [dset_p1, doff_p1, dget_p1, onC_true, ↓wA, ↓wC, wB, frzBE, frzBS, Nat.reduceEqDiff, Nat.reduceAdd, Nat.reduceSub, reduceIte, reduceCtorEq, Nat.reduceBEq, Nat.reduceLT, decide_true, sz66])
            | (refine execG_split (fun h => ?_) (fun h => ?_) <;> simp only [h])
            | (refine execC_split (fun h => ?_) (fun h => ?_) <;> (try simp only [h]))
            | (refine onPick_split (fun h => ?_) (fun h => ?_) <;> (try simp only [h])))
        refine exec_gh1 (freeze 6 none [4] rfl rfl rfl) ?_
        simp only [obSet, dset_p4, D.unown, ints_unown, ↓wA, ↓wC, wB, frzBE, frzBS, Nat.reduceEqDiff, Nat.reduceAdd, Nat.reduceSub, reduceIte, reduceCtorEq, Nat.reduceBEq, Nat.reduceLT, decide_true, sz66]
        repeat' (first
            | (simp only [onC_true, rd_p, size_p, isV_p, noOwn_p, ints_noOwn, App.o, ↓wA, ↓wC, wB, frzBE, frzBS, Nat.reduceEqDiff, Nat.reduceAdd, Nat.reduceSub, reduceIte, reduceCtorEq, Nat.reduceBEq, Nat.reduceLT, decide_true, sz66])
            | (refine execG_split (fun h => ?_) (fun h => ?_) <;> simp only [h])
            | (refine execC_split (fun h => ?_) (fun h => ?_) <;> (try simp only [h]))
            | (refine onPick_split (fun h => ?_) (fun h => ?_) <;> (try simp only [h])))
        refine onC_i rfl ?_
        exact ⟨_, rfl, ⟨⟨id, z2, d, v, hs, z⟩, k9, _, rfl, rfl, by omega, by omega, hv, by simp; omega⟩⟩
      · skip
        refine call_frz 10 ?_
        simp only [frz1, frzE, frzS, D.unown, ↓wA, ↓wC, wB, frzBE, frzBS, Nat.reduceEqDiff, Nat.reduceAdd, Nat.reduceSub, reduceIte, reduceCtorEq, Nat.reduceBEq, Nat.reduceLT, decide_true, sz66]
        refine callM_rel (among_fn code k8 s8 [-1, 20001] hc (by omega) (by decide) (by decide)) rfl rfl rfl ?_
        rintro _ _ ⟨z2, k9, s9, rfl, rfl, hk9, hk9', hmz2⟩
        repeat' (first
            | (simp only [dset_p2, doff_p2, dget_p2, onC_true, ↓wA, ↓wC, wB, frzBE, frzBS, Nat.reduceEqDiff, Nat.reduceAdd, Nat.reduceSub, reduceIte, reduceCtorEq, Nat.reduceBEq, Nat.reduceLT, decide_true, sz66])
            | (refine execG_split (fun h => ?_) (fun h => ?_) <;> simp only [h])
            | (refine execC_split (fun h => ?_) (fun h => ?_) <;> (try simp only [h]))
            | (refine onPick_split (fun h => ?_) (fun h => ?_) <;> (try simp only [h])))
        refine exec_gh1 (freeze 6 none [4] rfl rfl rfl) ?_
        simp only [obSet, dset_p4, D.unown, ints_unown, ↓wA, ↓wC, wB, frzBE, frzBS, Nat.reduceEqDiff, Nat.reduceAdd, Nat.reduceSub, reduceIte, reduceCtorEq, Nat.reduceBEq, Nat.reduceLT, decide_true, sz66]
        repeat' (first
            | (simp only [onC_true, rd_p, size_p, isV_p, noOwn_p, ints_noOwn, App.o, ↓wA, ↓wC, wB, frzBE, frzBS, Nat.reduceEqDiff, Nat.reduceAdd, Nat.reduceSub, reduceIte, reduceCtorEq, Nat.reduceBEq, Nat.reduceLT, decide_true, sz66])
            | (refine execG_split (fun h => ?_) (fun h => ?_) <;> simp only [h])
            | (refine execC_split (fun h => ?_) (fun h => ?_) <;> (try simp only [h]))
            | (refine onPick_split (fun h => ?_) (fun h => ?_) <;> (try simp only [h])))
        refine onC_i rfl ?_
        exact ⟨_, rfl, ⟨⟨id, q, z2, v, hs, z⟩, k9, _, rfl, rfl, by omega, by omega, hv, by simp; omega⟩⟩
      · refine exec_gh _ (unlink 6 none [4] (es := 1) (xs := dl iD hs) rfl rfl) fun u2 => ?_
        simp only [obSet, dset_p4, ↓wA, ↓wC, wB, frzBE, frzBS, Nat.reduceEqDiff, Nat.reduceAdd, Nat.reduceSub, reduceIte, reduceCtorEq, Nat.reduceBEq, Nat.reduceLT, decide_true, sz66]
        repeat' (first
            | (simp only [dget_p4, doff_p4, dset_p4, onC_true, ↓wA, ↓wC, wB, frzBE, frzBS, Nat.reduceEqDiff, Nat.reduceAdd, Nat.reduceSub, reduceIte, reduceCtorEq, Nat.reduceBEq, Nat.reduceLT, decide_true, sz66])
            | (refine onJ_q ?_)
            | (refine execG_split (fun h => ?_) (fun h => ?_) <;> simp only [h])
            | (refine execC_split (fun h => ?_) (fun h => ?_) <;> (try simp only [h]))
            | (refine onPick_split (fun h => ?_) (fun h => ?_) <;> (try simp only [h])))
        refine call_frz 12 ?_
        simp only [frz1, frzE, frzS, D.unown, ↓wA, ↓wC, wB, frzBE, frzBS, Nat.reduceEqDiff, Nat.reduceAdd, Nat.reduceSub, reduceIte, reduceCtorEq, Nat.reduceBEq, Nat.reduceLT, decide_true, sz66]
        refine callM_rel (among_fn code k8 s8 [0, 49] hc (by omega) (by decide) (by decide)) rfl rfl rfl ?_
        rintro _ _ ⟨z2, k9, s9, rfl, rfl, hk9, hk9', hmz2⟩
        repeat' (first
            | (simp only [dl_len, ap_int, ints_noOwn, dget_p4, doff_p4, dset_p4, onC_true, ↓wA, ↓wC, wB, frzBE, frzBS, Nat.reduceEqDiff, Nat.reduceAdd, Nat.reduceSub, reduceIte, reduceCtorEq, Nat.reduceBEq, Nat.reduceLT, decide_true, sz66])
            | (with_reducible refine onC_i ?_ ?_; focus omega)
            | (with_reducible refine onC_i ?_ ?_; focus (simp; done))
            | (refine execG_split (fun h => ?_) (fun h => ?_) <;> simp only [h])
            | (refine execC_split (fun h => ?_) (fun h => ?_) <;> (try simp only [h]))
            | (refine onPick_split (fun h => ?_) (fun h => ?_) <;> (try simp only [h])))
        refine exec_gh1 (freeze 6 none [4] rfl rfl rfl) ?_
        simp only [obSet, dset_p4, D.unown, ints_unown, ↓wA, ↓wC, wB, frzBE, frzBS, Nat.reduceEqDiff, Nat.reduceAdd, Nat.reduceSub, reduceIte, reduceCtorEq, Nat.reduceBEq, Nat.reduceLT, decide_true, sz66]
        repeat' (first
            | (simp only [onC_true, rd_p, size_p, isV_p, noOwn_p, ints_noOwn, App.o, ↓wA, ↓wC, wB, frzBE, frzBS, Nat.reduceEqDiff, Nat.reduceAdd, Nat.reduceSub, reduceIte, reduceCtorEq, Nat.reduceBEq, Nat.reduceLT, decide_true, sz66])
            | (refine execG_split (fun h => ?_) (fun h => ?_) <;> simp only [h])
            | (refine execC_split (fun h => ?_) (fun h => ?_) <;> (try simp only [h]))
            | (refine onPick_split (fun h => ?_) (fun h => ?_) <;> (try simp only [h])))
        refine onC_i rfl ?_
        exact ⟨_, rfl, ⟨⟨id, q, d, v, hs ++ [z2], z⟩, k9, _, rfl, rfl, by omega, by omega, hv, by simp; omega⟩⟩
      · skip
        refine call_frz 10 ?_
        simp only [frz1, frzE, frzS, D.unown, ↓wA, ↓wC, wB, frzBE, frzBS, Nat.reduceEqDiff, Nat.reduceAdd, Nat.reduceSub, reduceIte, reduceCtorEq, Nat.reduceBEq, Nat.reduceLT, decide_true, sz66]
        refine callM_rel (among_fn code k8 s8 [-1, 0, 2, 5] hc (by omega) (by decide) (by decide)) rfl rfl rfl ?_
        rintro _ _ ⟨z2, k9, s9, rfl, rfl, hk9, hk9', hmz2⟩
        repeat' (first
            | (simp only [dset_p5, doff_p5, dget_p5, onC_true, ↓wA, ↓wC, wB, frzBE, frzBS, Nat.reduceEqDiff, Nat.reduceAdd, Nat.reduceSub, reduceIte, reduceCtorEq, Nat.reduceBEq, Nat.reduceLT, decide_true, sz66])
            | (refine execG_split (fun h => ?_) (fun h => ?_) <;> simp only [h])
            | (refine execC_split (fun h => ?_) (fun h => ?_) <;> (try simp only [h]))
            | (refine onPick_split (fun h => ?_) (fun h => ?_) <;> (try simp only [h])))
        refine exec_gh1 (freeze 6 none [4] rfl rfl rfl) ?_
        simp only [obSet, dset_p4, D.unown, ints_unown, ↓wA, ↓wC, wB, frzBE, frzBS, Nat.reduceEqDiff, Nat.reduceAdd, Nat.reduceSub, reduceIte, reduceCtorEq, Nat.reduceBEq, Nat.reduceLT, decide_true, sz66]
        repeat' (first
            | (simp only [onC_true, rd_p, size_p, isV_p, noOwn_p, ints_noOwn, App.o, ↓wA, ↓wC, wB, frzBE, frzBS, Nat.reduceEqDiff, Nat.reduceAdd, Nat.reduceSub, reduceIte, reduceCtorEq, Nat.reduceBEq, Nat.reduceLT, decide_true, sz66])
            | (refine execG_split (fun h => ?_) (fun h => ?_) <;> simp only [h])
            | (refine execC_split (fun h => ?_) (fun h => ?_) <;> (try simp only [h]))
            | (refine onPick_split (fun h => ?_) (fun h => ?_) <;> (try simp only [h])))
        refine onC_i rfl ?_
        exact ⟨_, rfl, ⟨⟨id, q, d, v, hs, z2⟩, k9, _, rfl, rfl, by omega, by omega, hv, by simp; omega⟩⟩
      · skip
        refine exec_gh1 (freeze 6 none [4] rfl rfl rfl) ?_
        simp only [obSet, dset_p4, D.unown, ints_unown, ↓wA, ↓wC, wB, frzBE, frzBS, Nat.reduceEqDiff, Nat.reduceAdd, Nat.reduceSub, reduceIte, reduceCtorEq, Nat.reduceBEq, Nat.reduceLT, decide_true, sz66]
        repeat' (first
            | (simp only [onC_true, rd_p, size_p, isV_p, noOwn_p, ints_noOwn, App.o, ↓wA, ↓wC, wB, frzBE, frzBS, Nat.reduceEqDiff, Nat.reduceAdd, Nat.reduceSub, reduceIte, reduceCtorEq, Nat.reduceBEq, Nat.reduceLT, decide_true, sz66])
            | (refine execG_split (fun h => ?_) (fun h => ?_) <;> simp only [h])
            | (refine execC_split (fun h => ?_) (fun h => ?_) <;> (try simp only [h]))
            | (refine onPick_split (fun h => ?_) (fun h => ?_) <;> (try simp only [h])))
        refine onC_i rfl ?_
        exact ⟨_, rfl, ⟨⟨id, q, d, v, hs, z⟩, k8, _, rfl, rfl, by omega, by omega, hv, by simp; omega⟩⟩
end Go.Pe.Try

set_option maxRecDepth 100000
set_option maxHeartbeats 4000000
set_option linter.all false
namespace Go.Pe.Try
open Go.Proofs.Try
/-- not long. -/
def App.few (x : App) : Prop := x.a.length ≤ 12 ∧ x.h.length ≤ 13
theorem App.few_ok {x : App} (h : x.few) : x.ok0 := ⟨by have := h.1; omega, by have := h.2; omega⟩
theorem d_noOwn (x : App) : x.d'.noOwn = true := by simp [App.d', D.noOwn, ints_noOwn]
theorem ap_app (L : List App) (x : App) : (dl App.d' L).app (D.cons x.d' .nil) = dl App.d' (L ++ [x]) := app_one (f := App.d') L x
theorem nil_app : ∀ d : D, D.nil.app d = d := fun d => rfl
theorem appeals_fn (code : List UInt8) (k : Nat) (seed : Int) (hc : code.length ≤ 1048576) (hk : k ≤ 999999990000) : FnM prog 84 true (curD code k seed) []
    (fun x' rs => ∃ (xs : List App) (k' : Nat) (seed' : Int), x' = curD code k' seed' ∧ rs = [.sl false 6 (appsD xs)] ∧ k ≤ k' ∧ k' ≤ k + 5000 ∧ xs.length ≤ 12 ∧ ∀ x ∈ xs, x.few) := by
  refine FnM_ofg (ps := [[1, 1, 1, 1, 1, 0]]) (fn := f84) (by exact func84) c84 r84 (n := 54) (by rfl) (rv := [.tmp 2]) (by rfl) (by decide) (by simp) ?_
  unfold m84
  simp only [ghAll, ghAt]
  repeat' (first
      | (simp only [onC_true, ↓wA, ↓wC, wB, frzBE, frzBS, Nat.reduceEqDiff, Nat.reduceAdd, Nat.reduceSub, reduceIte, reduceCtorEq, Nat.reduceBEq, Nat.reduceLT, decide_true])
      | (refine execG_split (fun h => ?_) (fun h => ?_) <;> simp only [h])
      | (refine execC_split (fun h => ?_) (fun h => ?_) <;> (try simp only [h]))
      | (refine onPick_split (fun h => ?_) (fun h => ?_) <;> (try simp only [h])))
  refine callM_rel (pick_fn code k seed 8 hc (by omega)) rfl rfl rfl ?_
  rintro _ _ ⟨n0, k1, s1, rfl, rfl, hk1, hk1', hn0, hn0'⟩
  repeat' (first
      | (simp only [onC_true, ↓wA, ↓wC, wB, frzBE, frzBS, Nat.reduceEqDiff, Nat.reduceAdd, Nat.reduceSub, reduceIte, reduceCtorEq, Nat.reduceBEq, Nat.reduceLT, decide_true])
      | (refine execG_split (fun h => ?_) (fun h => ?_) <;> simp only [h])
      | (refine execC_split (fun h => ?_) (fun h => ?_) <;> (try simp only [h]))
      | (refine onPick_split (fun h => ?_) (fun h => ?_) <;> (try simp only [h])))
  refine exec_loop (fun x : Nat × Int × List App × Nat × Int => ⟨[(0, .ptr 0 0 []), (3, .d (.sl false 6 (appsD x.2.2.1))), (4, .d (.int .i64 x.2.1)), (5, .d (.int .i64 x.1))], [.box (curD code x.2.2.2.1 x.2.2.2.2)]⟩)
    (fun x => x.1 + x.2.2.1.length ≤ 7 ∧ 0 ≤ x.2.1 ∧ x.2.1 + 3 * x.1 ≤ 21 ∧ k ≤ x.2.2.2.1 ∧ x.2.2.2.1 + 300 * x.1 ≤ k + 2200 ∧ ∀ y ∈ x.2.2.1, y.few) (fun x => x.1) (n0.toNat, 0, [], k1, s1)
    ((frzO 1 rfl).trans (weak_of _ rfl ⟨⟨rfl, rfl⟩, ⟨rfl, rfl⟩, ⟨rfl, rfl⟩, ⟨by show SV.d (.int .i64 n0) = SV.d (.int .i64 (n0.toNat : Int)); rw [Int.toNat_of_nonneg hn0], rfl⟩, trivial⟩)) ⟨by simp; omega, by simp, by simp; omega, hk1, by simp; omega, by simp⟩ ?_
  rintro ⟨n, id, xs, k2, s2⟩ ⟨i1, i2, i3, i4, i5, i6⟩
  simp only at i1 i2 i3 i4 i5 i6 ⊢
  cases n with
  | succ n =>
    have hd : decide ((0 : Int) < ((n + 1 : Nat) : Int)) = true := decide_eq_true (by omega)
    repeat' (first
        | (simp only [hd, ↓wA, ↓wC, wB, frzBE, frzBS, Nat.reduceEqDiff, Nat.reduceAdd, Nat.reduceSub, reduceIte, reduceCtorEq, Nat.reduceBEq, Nat.reduceLT, decide_true])
        | (with_reducible refine onI_bare ?_ ?_; focus (simp only [InR]; omega))
        | (refine execG_split (fun h => ?_) (fun h => ?_) <;> simp only [h])
        | (refine execC_split (fun h => ?_) (fun h => ?_) <;> (try simp only [h]))
        | (refine onPick_split (fun h => ?_) (fun h => ?_) <;> (try simp only [h])))
    refine callM_rel (pick_fn code k2 s2 3 hc (by omega)) rfl rfl rfl ?_
    rintro _ _ ⟨m, k3, s3, rfl, rfl, hk3, hk3', hm, hm'⟩
    repeat' (first
        | (simp only [hd, dl_len, nil_app, onC_true, ↓wA, ↓wC, wB, frzBE, frzBS, Nat.reduceEqDiff, Nat.reduceAdd, Nat.reduceSub, reduceIte, reduceCtorEq, Nat.reduceBEq, Nat.reduceLT, decide_true])
        | (with_reducible refine onC_i ?_ ?_; focus omega)
        | (with_reducible refine onC_i ?_ ?_; focus (simp; done))
        | (with_reducible refine onI_bare ?_ ?_; focus (simp only [InR]; omega))
        | (refine execG_split (fun h => ?_) (fun h => ?_) <;> simp only [h])
        | (refine execC_split (fun h => ?_) (fun h => ?_) <;> (try simp only [h]))
        | (refine onPick_split (fun h => ?_) (fun h => ?_) <;> (try simp only [h])))
    refine callM_rel (appeal_fn code k3 s3 (id + 1 + m) hc (by omega)) rfl rfl rfl ?_
    rintro _ _ ⟨x, k4, s4, rfl, rfl, hk4, hk4', hxa, hxh⟩
    have hfew : ∀ y ∈ xs ++ [x], y.few := by
      intro y hy
      rcases List.mem_append.1 hy with hy | hy
      · exact i6 y hy
      · rw [List.mem_singleton.1 hy]; exact ⟨hxa, hxh⟩
    have hG := l24Good_fn (xs ++ [x]) (by simp; omega) (fun y hy => App.few_ok (hfew y hy))
    have hG' : Fn prog 63 [.sl false 6 (dl App.d' (xs ++ [x])).unown] (fun rs => rs = [.bool (goodA (xs ++ [x]))]) := by rw [show (dl App.d' (xs ++ [x])).unown = dl App.d' (xs ++ [x]) from apps_unown _]; exact hG
    repeat' (first
        | (simp only [hd, d_noOwn, oa_size, oa_isV, App.noOwn, dl_len, ap_app, apps_noOwn, onC_true, ↓wA, ↓wC, wB, frzBE, frzBS, Nat.reduceEqDiff, Nat.reduceAdd, Nat.reduceSub, reduceIte, reduceCtorEq, Nat.reduceBEq, Nat.reduceLT, decide_true])
        | (with_reducible refine onC_i ?_ ?_; focus omega)
        | (with_reducible refine onC_i ?_ ?_; focus (simp; done))
        | (refine call_det (hG') rfl rfl ?_)
        | (refine callP_det (hG') rfl rfl ?_)
        | (refine execG_split (fun h => ?_) (fun h => ?_) <;> simp only [h])
        | (refine execC_split (fun h => ?_) (fun h => ?_) <;> (try simp only [h]))
        | (refine onPick_split (fun h => ?_) (fun h => ?_) <;> (try simp only [h])))
    · refine onI_bare (by simp only [InR]; omega) ?_
      have e5 : (((n + 1 : Nat) : Int) - 1) = (n : Int) := by omega
      rw [e5]
      exact ⟨(n, id + 1 + m, xs ++ [x], k4, s4), (frzO 1 rfl).trans (weak_of _ rfl ⟨⟨rfl, rfl⟩, ⟨by simp only [frzE, frzS, D.unown, apps_unown, ↓wA, ↓wC, wB, frzBE, frzBS, Nat.reduceEqDiff, Nat.reduceAdd, Nat.reduceSub, reduceIte, reduceCtorEq, Nat.reduceBEq, Nat.reduceLT, decide_true], rfl⟩, ⟨rfl, rfl⟩, ⟨rfl, rfl⟩, trivial⟩), ⟨by simp; omega, by simp; omega, by simp; omega, by simp; omega, by simp; omega, hfew⟩, by simp⟩
    · skip
      refine callM_rel (one_fn code k4 s4 40 hc (by omega)) rfl rfl rfl ?_
      rintro _ _ ⟨b, k5, s5, rfl, rfl, hk5, hk5'⟩
      repeat' (first
          | (simp only [hd, onC_true, ↓wA, ↓wC, wB, frzBE, frzBS, Nat.reduceEqDiff, Nat.reduceAdd, Nat.reduceSub, reduceIte, reduceCtorEq, Nat.reduceBEq, Nat.reduceLT, decide_true])
          | (refine execG_split (fun h => ?_) (fun h => ?_) <;> simp only [h])
          | (refine execC_split (fun h => ?_) (fun h => ?_) <;> (try simp only [h]))
          | (refine onPick_split (fun h => ?_) (fun h => ?_) <;> (try simp only [h])))
      · refine onI_bare (by simp only [InR]; omega) ?_
        have e5 : (((n + 1 : Nat) : Int) - 1) = (n : Int) := by omega
        rw [e5]
        exact ⟨(n, id + 1 + m, xs ++ [x], k5, s5), (frzO 1 rfl).trans (weak_of _ rfl ⟨⟨rfl, rfl⟩, ⟨by simp only [frzE, frzS, D.unown, apps_unown, ↓wA, ↓wC, wB, frzBE, frzBS, Nat.reduceEqDiff, Nat.reduceAdd, Nat.reduceSub, reduceIte, reduceCtorEq, Nat.reduceBEq, Nat.reduceLT, decide_true], rfl⟩, ⟨rfl, rfl⟩, ⟨rfl, rfl⟩, trivial⟩), ⟨by simp; omega, by simp; omega, by simp; omega, by simp; omega, by simp; omega, hfew⟩, by simp⟩
      · refine onI_bare (by simp only [InR]; omega) ?_
        have e5 : (((n + 1 : Nat) : Int) - 1) = (n : Int) := by omega
        rw [e5]
        exact ⟨(n, id + 1 + m, xs, k5, s5), (weak_of _ rfl ⟨⟨rfl, rfl⟩, ⟨rfl, rfl⟩, ⟨rfl, rfl⟩, ⟨rfl, rfl⟩, trivial⟩), ⟨by simp; omega, by simp; omega, by simp; omega, by simp; omega, by simp; omega, i6⟩, by simp⟩
  | zero =>
    have hd : decide ((0 : Int) < ((0 : Nat) : Int)) = false := rfl
    repeat' (first
        | (simp only [hd, ↓wA, ↓wC, wB, frzBE, frzBS, Nat.reduceEqDiff, Nat.reduceAdd, Nat.reduceSub, reduceIte, reduceCtorEq, Nat.reduceBEq, Nat.reduceLT, decide_true])
        | (refine execG_split (fun h => ?_) (fun h => ?_) <;> simp only [h])
        | (refine execC_split (fun h => ?_) (fun h => ?_) <;> (try simp only [h]))
        | (refine onPick_split (fun h => ?_) (fun h => ?_) <;> (try simp only [h])))
    refine callM_rel (one_fn code k2 s2 24 hc (by omega)) rfl rfl rfl ?_
    rintro _ _ ⟨b, k3, s3, rfl, rfl, hk3, hk3'⟩
    repeat' (first
        | (simp only [hd, ↓wA, ↓wC, wB, frzBE, frzBS, Nat.reduceEqDiff, Nat.reduceAdd, Nat.reduceSub, reduceIte, reduceCtorEq, Nat.reduceBEq, Nat.reduceLT, decide_true])
        | (refine execG_split (fun h => ?_) (fun h => ?_) <;> simp only [h])
        | (refine execC_split (fun h => ?_) (fun h => ?_) <;> (try simp only [h]))
        | (refine onPick_split (fun h => ?_) (fun h => ?_) <;> (try simp only [h])))
    · refine exec_loop (fun x : Nat × List App × Nat × Int => ⟨[(0, .ptr 0 0 []), (3, .own 1), (7, .d (.int .i64 x.1))], [.box (curD code x.2.2.1 x.2.2.2), .val (.sl true 6 (dl App.o x.2.1))]⟩)
        (fun x => x.1 ≤ 11 ∧ x.2.1.length = x.1 ∧ k ≤ x.2.2.1 ∧ x.2.2.1 ≤ k + 2300 + 2 * x.1 ∧ ∀ y ∈ x.2.1, y.few) (fun x => 20 - x.1) (0, [], k3, s3) (weak_of _ rfl ⟨⟨rfl, rfl⟩, ⟨rfl, rfl⟩, ⟨rfl, rfl⟩, trivial⟩) ⟨by simp, by simp, by simp; omega, by simp; omega, by simp⟩ ?_
      rintro ⟨j, ys, k4, s4⟩ ⟨j1, j2, j3, j4, j5⟩
      simp only at j1 j2 j3 j4 j5 ⊢
      have hap : ∀ (L : List App) (n : Int), (dl App.o L).app (D.cons (.st (.cons (.int .i64 n) (.cons (.int .i64 n) (.cons (.int .i64 0) (.cons (.sl true 1 .nil) (.cons (.sl true 1 .nil) (.cons (.int .i64 1) .nil))))))) .nil) = dl App.o (L ++ [⟨n, n, 0, [], [], 1⟩]) := fun L n => app_one (f := App.o) L ⟨n, n, 0, [], [], 1⟩
      repeat' (first
          | (simp only [onC_true, ↓wA, ↓wC, wB, frzBE, frzBS, Nat.reduceEqDiff, Nat.reduceAdd, Nat.reduceSub, reduceIte, reduceCtorEq, Nat.reduceBEq, Nat.reduceLT, decide_true])
          | (refine execG_split (fun h => ?_) (fun h => ?_) <;> simp only [h])
          | (refine execC_split (fun h => ?_) (fun h => ?_) <;> (try simp only [h]))
          | (refine onPick_split (fun h => ?_) (fun h => ?_) <;> (try simp only [h])))
      refine callM_rel (pick_fn code k4 s4 2 hc (by omega)) rfl rfl rfl ?_
      rintro _ _ ⟨q, k5, s5, rfl, rfl, hk5, hk5', hq, hq'⟩
      repeat' (first
          | (simp only [dl_len, hap, onC_true, ↓wA, ↓wC, wB, frzBE, frzBS, Nat.reduceEqDiff, Nat.reduceAdd, Nat.reduceSub, reduceIte, reduceCtorEq, Nat.reduceBEq, Nat.reduceLT, decide_true])
          | (with_reducible refine onC_i ?_ ?_; focus omega)
          | (with_reducible refine onC_i ?_ ?_; focus (simp; done))
          | (with_reducible refine onI_bare ?_ ?_; focus (simp only [InR]; omega))
          | (refine execG_split (fun h => ?_) (fun h => ?_) <;> simp only [h])
          | (refine execC_split (fun h => ?_) (fun h => ?_) <;> (try simp only [h]))
          | (refine onPick_split (fun h => ?_) (fun h => ?_) <;> (try simp only [h])))
      · have hlt := of_decide_eq_true h
        refine ⟨(j + 1, ys ++ [⟨(j : Int) + 1, (j : Int) + 1, 0, [], [], 1⟩], k5, s5), (weak_of _ rfl ⟨⟨rfl, rfl⟩, ⟨rfl, rfl⟩, ⟨rfl, rfl⟩, trivial⟩), ⟨by simp; omega, by simp; omega, by simp; omega, by simp; omega, fun y hy => ?_⟩, by simp; omega⟩
        rcases List.mem_append.1 hy with hy | hy
        · exact j5 y hy
        · rw [List.mem_singleton.1 hy]; exact ⟨by simp, by simp⟩
      · refine exec_gh1 (frzO 1 rfl) ?_
        simp only [frzE, frzS, D.unown, dlo_unown, ↓wA, ↓wC, wB, frzBE, frzBS, Nat.reduceEqDiff, Nat.reduceAdd, Nat.reduceSub, reduceIte, reduceCtorEq, Nat.reduceBEq, Nat.reduceLT, decide_true]
        exact ⟨ys, k5, s5, rfl, rfl, by omega, by omega, by omega, j5⟩
    · refine exec_gh1 (Weak.refl _) ?_
      repeat' (first
          | (simp only [hd, ↓wA, ↓wC, wB, frzBE, frzBS, Nat.reduceEqDiff, Nat.reduceAdd, Nat.reduceSub, reduceIte, reduceCtorEq, Nat.reduceBEq, Nat.reduceLT, decide_true])
          | (refine execG_split (fun h => ?_) (fun h => ?_) <;> simp only [h])
          | (refine execC_split (fun h => ?_) (fun h => ?_) <;> (try simp only [h]))
          | (refine onPick_split (fun h => ?_) (fun h => ?_) <;> (try simp only [h])))
      exact ⟨xs, k3, s3, rfl, rfl, by omega, by omega, by omega, i6⟩
end Go.Pe.Try

set_option maxRecDepth 100000
set_option maxHeartbeats 4000000
set_option linter.all false
namespace Go.Pe.Try
open Go.Proofs.Try
theorem appealId_fn (code : List UInt8) (k : Nat) (seed : Int) (xs : List App) (st : Int) (hc : code.length ≤ 1048576) (hk : k ≤ 999999990000) (hxs : xs.length ≤ 12) : FnM prog 98 true (curD code k seed) [.sl false 6 (appsD xs), .int .i64 st]
    (fun x' rs => ∃ (m : Int) (k' : Nat) (seed' : Int), x' = curD code k' seed' ∧ rs = [.int .i64 m] ∧ k ≤ k' ∧ k' ≤ k + 30 ∧ (m ∈ ([0, 1, 2, 500] : List Int) ∨ m ∈ xs.map App.i)) := by
  refine FnM_of' (fn := f98) (by exact func98) c98 r98 (n := 48) (by rfl) (rv := [.tmp 6]) (by rfl) (by decide) (by simp) ?_
  unfold m98
  repeat' (first
      | (simp only [onC_true, ↓wA, ↓wC, wB, frzBE, frzBS, Nat.reduceEqDiff, Nat.reduceAdd, Nat.reduceSub, reduceIte, reduceCtorEq, Nat.reduceBEq, Nat.reduceLT, decide_true])
      | (refine execG_split (fun h => ?_) (fun h => ?_) <;> simp only [h])
      | (refine execC_split (fun h => ?_) (fun h => ?_) <;> (try simp only [h]))
      | (refine onPick_split (fun h => ?_) (fun h => ?_) <;> (try simp only [h])))
  refine exec_loop (fun x : Nat × List Int × Nat × Int => ⟨[(0, .ptr 0 0 []), (1, .d (.sl false 6 (appsD xs))), (2, .d (.int .i64 st)), (7, .own 1), (8, .d (.int .i64 x.1))], [.box (curD code x.2.2.1 x.2.2.2), .val (.sl true 1 (dl iD x.2.1))]⟩)
    (fun x => x.1 ≤ xs.length ∧ x.2.1.length ≤ x.1 ∧ k ≤ x.2.2.1 ∧ x.2.2.1 ≤ k + 2 * x.1 ∧ ∀ n ∈ x.2.1, n ∈ xs.map App.i) (fun x => xs.length - x.1) (0, [], k, seed) (weak_of _ rfl ⟨⟨rfl, rfl⟩, ⟨rfl, rfl⟩, ⟨rfl, rfl⟩, ⟨rfl, rfl⟩, ⟨rfl, rfl⟩, trivial⟩) ⟨by simp, by simp, by simp, by simp, by simp⟩ ?_
  rintro ⟨i, v, k1, s1⟩ ⟨i1, i2, i3, i4, i5⟩
  simp only at i1 i2 i3 i4 i5 ⊢
  have h0 : (0 : Int) ≤ (i : Int) := by omega
  by_cases hlt : i < xs.length
  · obtain ⟨x, hr⟩ := get_lt hlt
    have hd : decide ((i : Int) < (xs.length : Int)) = true := decide_eq_true (by omega)
    have hin : ∀ n ∈ v ++ [x.i], n ∈ xs.map App.i := by
      intro n hn
      rcases List.mem_append.1 hn with hn | hn
      · exact i5 n hn
      · rw [List.mem_singleton.1 hn]; exact List.mem_map.2 ⟨x, List.mem_of_getElem? hr, rfl⟩
    repeat' (first
        | (simp only [dl_len, hd, h0, dl_nth, Int.toNat_natCast, hr, Option.map_some, onC_true, ↓fa_app5, ↓fa_app0, ap_int, ints_noOwn, ↓wA, ↓wC, wB, frzBE, frzBS, Nat.reduceEqDiff, Nat.reduceAdd, Nat.reduceSub, reduceIte, reduceCtorEq, Nat.reduceBEq, Nat.reduceLT, decide_true])
        | (with_reducible refine onC_i ?_ ?_; focus omega)
        | (with_reducible refine onC_i ?_ ?_; focus (simp; done))
        | (with_reducible refine onI_bare ?_ ?_; focus (simp only [InR]; omega))
        | (refine execG_split (fun h => ?_) (fun h => ?_) <;> simp only [h])
        | (refine execC_split (fun h => ?_) (fun h => ?_) <;> (try simp only [h]))
        | (refine onPick_split (fun h => ?_) (fun h => ?_) <;> (try simp only [h])))
    · exact ⟨(i + 1, v ++ [x.i], k1, s1), (weak_of _ rfl ⟨⟨rfl, rfl⟩, ⟨rfl, rfl⟩, ⟨rfl, rfl⟩, ⟨rfl, rfl⟩, ⟨rfl, rfl⟩, trivial⟩), ⟨by simp; omega, by simp; omega, by simp; omega, by simp; omega, hin⟩, by simp; omega⟩
    · skip
      refine callM_rel (one_fn code k1 s1 6 hc (by omega)) rfl rfl rfl ?_
      rintro _ _ ⟨b, k2, s2, rfl, rfl, hk2, hk2'⟩
      repeat' (first
          | (simp only [dl_len, hd, h0, dl_nth, Int.toNat_natCast, hr, Option.map_some, onC_true, ↓fa_app5, ↓fa_app0, ap_int, ints_noOwn, ↓wA, ↓wC, wB, frzBE, frzBS, Nat.reduceEqDiff, Nat.reduceAdd, Nat.reduceSub, reduceIte, reduceCtorEq, Nat.reduceBEq, Nat.reduceLT, decide_true])
          | (with_reducible refine onC_i ?_ ?_; focus omega)
          | (with_reducible refine onC_i ?_ ?_; focus (simp; done))
          | (with_reducible refine onI_bare ?_ ?_; focus (simp only [InR]; omega))
          | (refine execG_split (fun h => ?_) (fun h => ?_) <;> simp only [h])
          | (refine execC_split (fun h => ?_) (fun h => ?_) <;> (try simp only [h]))
          | (refine onPick_split (fun h => ?_) (fun h => ?_) <;> (try simp only [h])))
      · exact ⟨(i + 1, v ++ [x.i], k2, s2), (weak_of _ rfl ⟨⟨rfl, rfl⟩, ⟨rfl, rfl⟩, ⟨rfl, rfl⟩, ⟨rfl, rfl⟩, ⟨rfl, rfl⟩, trivial⟩), ⟨by simp; omega, by simp; omega, by simp; omega, by simp; omega, hin⟩, by simp; omega⟩
      · exact ⟨(i + 1, v, k2, s2), (weak_of _ rfl ⟨⟨rfl, rfl⟩, ⟨rfl, rfl⟩, ⟨rfl, rfl⟩, ⟨rfl, rfl⟩, ⟨rfl, rfl⟩, trivial⟩), ⟨by simp; omega, by simp; omega, by simp; omega, by simp; omega, i5⟩, by simp; omega⟩
  · have hd : decide ((i : Int) < (xs.length : Int)) = false := decide_eq_false (by omega)
    repeat' (first
        | (simp only [dl_len, hd, ↓wA, ↓wC, wB, frzBE, frzBS, Nat.reduceEqDiff, Nat.reduceAdd, Nat.reduceSub, reduceIte, reduceCtorEq, Nat.reduceBEq, Nat.reduceLT, decide_true])
        | (refine execG_split (fun h => ?_) (fun h => ?_) <;> simp only [h])
        | (refine execC_split (fun h => ?_) (fun h => ?_) <;> (try simp only [h]))
        | (refine onPick_split (fun h => ?_) (fun h => ?_) <;> (try simp only [h])))
    · skip
      refine call_frz 2 ?_
      simp only [frz1, frzE, frzS, D.unown, ↓wA, ↓wC, wB, frzBE, frzBS, Nat.reduceEqDiff, Nat.reduceAdd, Nat.reduceSub, reduceIte, reduceCtorEq, Nat.reduceBEq, Nat.reduceLT, decide_true]
      refine callM_rel (among_fn code k1 s1 [0, 1, 2, 500] hc (by omega) (by decide) (by decide)) rfl rfl rfl ?_
      rintro _ _ ⟨z, k2, s2, rfl, rfl, hk2, hk2', hmz⟩
      repeat' (first
          | (simp only [onC_true, ↓wA, ↓wC, wB, frzBE, frzBS, Nat.reduceEqDiff, Nat.reduceAdd, Nat.reduceSub, reduceIte, reduceCtorEq, Nat.reduceBEq, Nat.reduceLT, decide_true])
          | (refine execG_split (fun h => ?_) (fun h => ?_) <;> simp only [h])
          | (refine execC_split (fun h => ?_) (fun h => ?_) <;> (try simp only [h]))
          | (refine onPick_split (fun h => ?_) (fun h => ?_) <;> (try simp only [h])))
      exact ⟨z, k2, s2, rfl, rfl, by omega, by omega, .inl hmz⟩
    · have hv : ¬ (v.length : Int) = 0 := of_decide_eq_false (by assumption)
      refine callM_rel (pick_fn code k1 s1 v.length hc (by omega)) rfl rfl rfl ?_
      rintro _ _ ⟨y, k2, s2, rfl, rfl, hk2, hk2', hy, hy'⟩
      obtain ⟨z, hz⟩ := get_lt (show y.toNat < v.length by omega)
      repeat' (first
          | (simp only [dl_nth, hy, hz, Option.map_some, onC_true, ↓rd_iD, ↓wA, ↓wC, wB, frzBE, frzBS, Nat.reduceEqDiff, Nat.reduceAdd, Nat.reduceSub, reduceIte, reduceCtorEq, Nat.reduceBEq, Nat.reduceLT, decide_true])
          | (refine execG_split (fun h => ?_) (fun h => ?_) <;> simp only [h])
          | (refine execC_split (fun h => ?_) (fun h => ?_) <;> (try simp only [h]))
          | (refine onPick_split (fun h => ?_) (fun h => ?_) <;> (try simp only [h])))
      all_goals exact ⟨z, k2, s2, rfl, rfl, by omega, by omega, .inr (i5 z (List.mem_of_getElem? hz))⟩
end Go.Pe.Try
