/- A new appeal as the reference has it, walked. -/
import Derived.Test.YtfndpmdjidenpaaAp20
set_option maxRecDepth 100000
set_option maxHeartbeats 4000000
set_option linter.all false
namespace Go.Pe.Try
open Go.Proofs.Try
def newI (xs : List App) : Int := match xs[xs.length - 1]? with
  | some l => l.i + 1
  | none => 1
def newS (a : List Int) : Int := if a.length = 0 then 1 else 0
def newA (xs : List App) (q d : Int) (a : List Int) : App := { i := newI xs, q := q, d := d, a := a, h := [], s := newS a }
def newOK (xs : List App) (q d : Int) (a : List Int) : Bool := goodA xs && goodA (xs ++ [newA xs q d a])
def newR (f : App → D) (xs : List App) (q d : Int) (a : List Int) : List D := if newOK xs q d a = true then [.sl true 6 (dl f (xs ++ [newA xs q d a])), .int .i64 (newI xs), .bool true] else [.sl true 6 .nil, .int .i64 0, .bool false]
theorem stepA_app {xs : List App} {y : App} {j : Nat} (h : j < xs.length) : stepA (xs ++ [y]) j = stepA xs j := by
  have e : (xs ++ [y])[j]? = xs[j]? := List.getElem?_append_left h
  have e2 : (xs ++ [y]).take j = xs.take j := List.take_append_of_le_length (by omega)
  have e3 : ∀ x, ltA (xs ++ [y]) j x = ltA xs j x := by
    intro x
    cases j with
    | zero => rfl
    | succ k =>
      have : (xs ++ [y])[k]? = xs[k]? := List.getElem?_append_left (by omega)
      simp only [ltA, this]
  simp only [stepA, e, e2, e3]
theorem goodA_app {xs : List App} {y : App} (h : goodA xs = false) : goodA (xs ++ [y]) = false := by
  cases h2 : goodA (xs ++ [y]) with
  | false => rfl
  | true =>
    simp only [goodA, Bool.and_eq_true, List.all_eq_true, List.mem_range, decide_eq_true_eq, List.length_append, List.length_singleton] at h2
    have : goodA xs = true := by
      simp only [goodA, Bool.and_eq_true, List.all_eq_true, List.mem_range, decide_eq_true_eq]
      refine ⟨by omega, fun j hj => ?_⟩
      rw [← stepA_app (y := y) hj]
      exact h2.2 j (by omega)
    rw [this] at h
    cases h
theorem newS_lt {a : List Int} {b : Bool} (h : decide ((a.length : Int) = 0) = b) : newS a = if b = true then 1 else 0 := by
  subst h
  unfold newS
  by_cases h : a.length = 0
  · simp [h]
  · rw [if_neg h, if_neg (by simpa using h)]
theorem lastA {xs : List App} (h : 0 < xs.length) : ∃ l, xs[xs.length - 1]? = some l ∧ (0 : Int) ≤ (xs.length : Int) - 1 ∧ xs[((xs.length : Int) - 1).toNat]? = some l ∧ newI xs = l.i + 1 := by
  obtain ⟨l, hl⟩ := get_lt (show xs.length - 1 < xs.length by omega)
  refine ⟨l, hl, by omega, ?_, ?_⟩
  · rw [show ((xs.length : Int) - 1).toNat = xs.length - 1 by omega]; exact hl
  · rw [newI, hl]
theorem specNew_fn (xs : List App) (q d : Int) (a : List Int) (hlen : xs.length ≤ 1048576) (hx : ∀ x ∈ xs, x.ok0) (ha : a.length ≤ 1048576) : Fn prog 32 [.sl false 6 (appsD xs), .int .i64 q, .int .i64 d, .sl false 1 (dl iD a)] (fun rs => rs = newR App.d' xs q d a) := by
  have hO : Fn prog 76 [.sl false 1 (dl iD a)] (fun rs => rs = [.sl false 1 (dl iD a)]) := by
    have h := Fn_unown (l1Own_fn a ha)
    simpa [D.unown, ints_unown] using h
  have hC := l24Own_fn xs hlen hx
  have hG : ∀ y : App, y.ok0 → Fn prog 54 [.sl false 6 (appsD (xs ++ [y]))] (fun rs => rs = [.bool (goodA (xs ++ [y]))]) := fun y hy => l24Good_big _ (by simp; omega) (fun x hx' => by
    rcases List.mem_append.1 hx' with h | h
    · exact hx x h
    · rw [List.mem_singleton.1 h]; exact hy)
  have hraw : D.st (.cons (.int .i64 1) (.cons (.int .i64 q) (.cons (.int .i64 d) (.cons (.sl false 1 (dl iD a)) (.cons (.sl true 1 .nil) (.cons (.int .i64 0) .nil)))))) = App.p { i := 1, q := q, d := d, a := a, h := [], s := 0 } (.sl false 1 (dl iD a)) (.sl true 1 .nil) := rfl
  have hdp4 : ∀ (y : App) (u v w : D), dset [4] (y.p u v) w = y.p u w := fun _ _ _ _ => rfl
  have hdo4 : ∀ (y : App) (u v : D), dget [4] (y.p u v) = some v := fun _ _ _ => rfl
  have hy : ∀ m s : Int, App.p { i := m, q := q, d := d, a := a, h := [], s := s } (.sl false 1 (dl iD a)) (.sl false 1 .nil) = App.d' { i := m, q := q, d := d, a := a, h := [], s := s } := fun _ _ => rfl
  have happ : ∀ y : App, (appsD xs).app (D.cons y.d' .nil) = appsD (xs ++ [y]) := fun y => app_one (f := App.d') xs y
  have hv : ∀ y : App, ∀ u v : D, (y.p u v).isV = true := fun _ _ _ => rfl
  have hz : ∀ y : App, (y.p (.sl false 1 (dl iD a)) (.sl true 1 .nil)).size = 6 := fun _ => rfl
  have hne : ∀ k : Nat, (appsD xs).unown = appsD xs := fun _ => apps_unown xs
  have hdo0 : ∀ y : App, doff [0] y.d' = 0 := fun y => by simp [App.d', doff, D.pre, D.nth, D.size]
  have hdg0 : ∀ y : App, dget [0] y.d' = some (.int .i64 y.i) := fun y => rfl
  have key : ∀ m s : Int, s = newS a → (goodA xs = true → m = newI xs) → ∀ b : Bool, goodA (xs ++ [{ i := m, q := q, d := d, a := a, h := [], s := s }]) = b → newR App.d' xs q d a = if b = true then [.sl true 6 (appsD (xs ++ [{ i := m, q := q, d := d, a := a, h := [], s := s }])), .int .i64 m, .bool true] else [.sl true 6 .nil, .int .i64 0, .bool false] := by
    intro m s h1 h2 b h3
    subst h1
    unfold newR newOK
    cases hg : goodA xs with
    | false =>
      rw [goodA_app hg] at h3
      subst h3
      rfl
    | true =>
      have := h2 hg
      subst this
      rw [show newA xs q d a = { i := newI xs, q := q, d := d, a := a, h := [], s := newS a } from rfl, h3, Bool.true_and]
  have hG' : ∀ m s : Int, Fn prog 54 [.sl false 6 (appsD (xs ++ [{ i := m, q := q, d := d, a := a, h := [], s := s }])).unown] (fun rs => rs = [.bool (goodA (xs ++ [{ i := m, q := q, d := d, a := a, h := [], s := s }]))]) := fun m s => by
    rw [apps_unown]; exact hG _ ⟨ha, by simp⟩
  cases hs : decide ((a.length : Int) = 0)
  all_goals
    have hns := newS_lt hs
    rcases Nat.eq_zero_or_pos xs.length with hnil | hpos
  case false.inl =>
    have hl0 : decide ((0 : Int) < (xs.length : Int)) = false := decide_eq_false (by omega)
    have hI := key 1 0 (by rw [hns]; rfl) (fun _ => by rw [List.length_eq_zero_iff.1 hnil]; rfl)
    have hG1 := hG' 1 0
    refine Fn_ofg (ps := [[1, 1, 1, 1, 0]]) (fn := f32) (by exact func32) c32 r32 (n := 47) (by rfl) (rv := [.tmp 8, .tmp 9, .tmp 10]) (by rfl) (by simp) ?_
    unfold m32
    simp only [ghAll, ghAt]
    repeat' (first
        | (simp only [dl_len, ints_noOwn, hraw, hs, hl0, hv, hz, onC_true, doff_p0, dget_p0, dset_p0, doff_p5, dget_p5, dset_p5, ↓wA, ↓wC, wB, frzBE, frzBS, Nat.reduceEqDiff, Nat.reduceAdd, Nat.reduceSub, reduceIte, reduceCtorEq, Nat.reduceBEq, Nat.reduceLT, decide_true])
        | (refine call_det (hO) rfl rfl ?_)
        | (refine callP_det (hO) rfl rfl ?_)
        | (refine execG_split (fun h => ?_) (fun h => ?_) <;> simp only [h])
        | (refine execC_split (fun h => ?_) (fun h => ?_) <;> (try simp only [h]))
        | (refine onPick_split (fun h => ?_) (fun h => ?_) <;> (try simp only [h])))
    refine exec_gh1 (freeze 1 none [4] rfl rfl rfl) ?_
    simp only [obSet, hdp4, D.unown, ↓wA, ↓wC, wB, frzBE, frzBS, Nat.reduceEqDiff, Nat.reduceAdd, Nat.reduceSub, reduceIte, reduceCtorEq, Nat.reduceBEq, Nat.reduceLT, decide_true]
    generalize hgb : goodA (xs ++ [_]) = b at hG1
    have hI := hI b hgb
    clear hgb
    cases b
    all_goals
      repeat' (first
          | (simp only [dl_len, ints_noOwn, hy, ↓rd_app, App.noOwn, App.unown, oa_size, oa_isV, hs, onC_true, happ, hdo0, hdg0, ↓wA, ↓wC, wB, frzBE, frzBS, Nat.reduceEqDiff, Nat.reduceAdd, Nat.reduceSub, reduceIte, reduceCtorEq, Nat.reduceBEq, Nat.reduceLT, decide_true])
          | (refine call_det (hC) rfl rfl ?_)
          | (refine callP_det (hC) rfl rfl ?_)
          | (refine call_det (hG1) rfl rfl ?_)
          | (refine callP_det (hG1) rfl rfl ?_)
          | (refine onJ_q ?_)
          | (with_reducible refine And.intro ?_ ?_)
          | (with_reducible refine onC_i ?_ ?_; focus omega)
          | (with_reducible refine onC_i ?_ ?_; focus (simp; done))
          | (refine execG_split (fun h => ?_) (fun h => ?_) <;> simp only [h])
          | (refine execC_split (fun h => ?_) (fun h => ?_) <;> (try simp only [h]))
          | (refine onPick_split (fun h => ?_) (fun h => ?_) <;> (try simp only [h])))
      all_goals
        rw [hI]
        rfl
  case false.inr =>
    have hl0 : decide ((0 : Int) < (xs.length : Int)) = true := decide_eq_true (by omega)
    obtain ⟨l, hl, hl1, hl2, hin⟩ := lastA hpos
    refine Fn_ofg (ps := [[1, 1, 1, 1, 0]]) (fn := f32) (by exact func32) c32 r32 (n := 47) (by rfl) (rv := [.tmp 8, .tmp 9, .tmp 10]) (by rfl) (by simp) ?_
    unfold m32
    simp only [ghAll, ghAt]
    repeat' (first
        | (simp only [dl_len, ints_noOwn, hraw, hs, hl0, hv, hz, onC_true, doff_p0, dget_p0, dset_p0, doff_p5, dget_p5, dset_p5, hl1, hl2, dl_nth, Option.map_some, ↓fa_app0, ↓wA, ↓wC, wB, frzBE, frzBS, Nat.reduceEqDiff, Nat.reduceAdd, Nat.reduceSub, reduceIte, reduceCtorEq, Nat.reduceBEq, Nat.reduceLT, decide_true])
        | (refine call_det (hO) rfl rfl ?_)
        | (refine callP_det (hO) rfl rfl ?_)
        | (with_reducible refine onI_bare ?_ ?_; focus (simp only [InR]; omega))
        | (with_reducible refine onI_any fun m hm1 hm2 => ?_)
        | (refine execG_split (fun h => ?_) (fun h => ?_) <;> simp only [h])
        | (refine execC_split (fun h => ?_) (fun h => ?_) <;> (try simp only [h]))
        | (refine onPick_split (fun h => ?_) (fun h => ?_) <;> (try simp only [h])))
    have hI := key m 0 (by rw [hns]; rfl) (fun hg => by
      rw [hin]
      have hb := (okA_parts ((goodA_ok hg).2.2 l (List.mem_of_getElem? hl))).1
      exact hm2 (by simp only [InR]; omega))
    have hG1 := hG' m 0
    refine exec_gh1 (freeze 1 none [4] rfl rfl rfl) ?_
    simp only [obSet, hdp4, D.unown, ↓wA, ↓wC, wB, frzBE, frzBS, Nat.reduceEqDiff, Nat.reduceAdd, Nat.reduceSub, reduceIte, reduceCtorEq, Nat.reduceBEq, Nat.reduceLT, decide_true]
    generalize hgb : goodA (xs ++ [_]) = b at hG1
    have hI := hI b hgb
    clear hgb
    cases b
    all_goals
      repeat' (first
          | (simp only [dl_len, ints_noOwn, hy, ↓rd_app, App.noOwn, App.unown, oa_size, oa_isV, hs, onC_true, happ, hdo0, hdg0, ↓wA, ↓wC, wB, frzBE, frzBS, Nat.reduceEqDiff, Nat.reduceAdd, Nat.reduceSub, reduceIte, reduceCtorEq, Nat.reduceBEq, Nat.reduceLT, decide_true])
          | (refine call_det (hC) rfl rfl ?_)
          | (refine callP_det (hC) rfl rfl ?_)
          | (refine call_det (hG1) rfl rfl ?_)
          | (refine callP_det (hG1) rfl rfl ?_)
          | (refine onJ_q ?_)
          | (with_reducible refine And.intro ?_ ?_)
          | (with_reducible refine onC_i ?_ ?_; focus omega)
          | (with_reducible refine onC_i ?_ ?_; focus (simp; done))
          | (refine execG_split (fun h => ?_) (fun h => ?_) <;> simp only [h])
          | (refine execC_split (fun h => ?_) (fun h => ?_) <;> (try simp only [h]))
          | (refine onPick_split (fun h => ?_) (fun h => ?_) <;> (try simp only [h])))
      all_goals
        rw [hI]
        rfl
  case true.inl =>
    have hl0 : decide ((0 : Int) < (xs.length : Int)) = false := decide_eq_false (by omega)
    have hI := key 1 1 (by rw [hns]; rfl) (fun _ => by rw [List.length_eq_zero_iff.1 hnil]; rfl)
    have hG1 := hG' 1 1
    refine Fn_ofg (ps := [[1, 1, 1, 1, 0]]) (fn := f32) (by exact func32) c32 r32 (n := 47) (by rfl) (rv := [.tmp 8, .tmp 9, .tmp 10]) (by rfl) (by simp) ?_
    unfold m32
    simp only [ghAll, ghAt]
    repeat' (first
        | (simp only [dl_len, ints_noOwn, hraw, hs, hl0, hv, hz, onC_true, doff_p0, dget_p0, dset_p0, doff_p5, dget_p5, dset_p5, ↓wA, ↓wC, wB, frzBE, frzBS, Nat.reduceEqDiff, Nat.reduceAdd, Nat.reduceSub, reduceIte, reduceCtorEq, Nat.reduceBEq, Nat.reduceLT, decide_true])
        | (refine call_det (hO) rfl rfl ?_)
        | (refine callP_det (hO) rfl rfl ?_)
        | (refine execG_split (fun h => ?_) (fun h => ?_) <;> simp only [h])
        | (refine execC_split (fun h => ?_) (fun h => ?_) <;> (try simp only [h]))
        | (refine onPick_split (fun h => ?_) (fun h => ?_) <;> (try simp only [h])))
    refine exec_gh1 (freeze 1 none [4] rfl rfl rfl) ?_
    simp only [obSet, hdp4, D.unown, ↓wA, ↓wC, wB, frzBE, frzBS, Nat.reduceEqDiff, Nat.reduceAdd, Nat.reduceSub, reduceIte, reduceCtorEq, Nat.reduceBEq, Nat.reduceLT, decide_true]
    generalize hgb : goodA (xs ++ [_]) = b at hG1
    have hI := hI b hgb
    clear hgb
    cases b
    all_goals
      repeat' (first
          | (simp only [dl_len, ints_noOwn, hy, ↓rd_app, App.noOwn, App.unown, oa_size, oa_isV, hs, onC_true, happ, hdo0, hdg0, ↓wA, ↓wC, wB, frzBE, frzBS, Nat.reduceEqDiff, Nat.reduceAdd, Nat.reduceSub, reduceIte, reduceCtorEq, Nat.reduceBEq, Nat.reduceLT, decide_true])
          | (refine call_det (hC) rfl rfl ?_)
          | (refine callP_det (hC) rfl rfl ?_)
          | (refine call_det (hG1) rfl rfl ?_)
          | (refine callP_det (hG1) rfl rfl ?_)
          | (refine onJ_q ?_)
          | (with_reducible refine And.intro ?_ ?_)
          | (with_reducible refine onC_i ?_ ?_; focus omega)
          | (with_reducible refine onC_i ?_ ?_; focus (simp; done))
          | (refine execG_split (fun h => ?_) (fun h => ?_) <;> simp only [h])
          | (refine execC_split (fun h => ?_) (fun h => ?_) <;> (try simp only [h]))
          | (refine onPick_split (fun h => ?_) (fun h => ?_) <;> (try simp only [h])))
      all_goals
        rw [hI]
        rfl
  case true.inr =>
    have hl0 : decide ((0 : Int) < (xs.length : Int)) = true := decide_eq_true (by omega)
    obtain ⟨l, hl, hl1, hl2, hin⟩ := lastA hpos
    refine Fn_ofg (ps := [[1, 1, 1, 1, 0]]) (fn := f32) (by exact func32) c32 r32 (n := 47) (by rfl) (rv := [.tmp 8, .tmp 9, .tmp 10]) (by rfl) (by simp) ?_
    unfold m32
    simp only [ghAll, ghAt]
    repeat' (first
        | (simp only [dl_len, ints_noOwn, hraw, hs, hl0, hv, hz, onC_true, doff_p0, dget_p0, dset_p0, doff_p5, dget_p5, dset_p5, hl1, hl2, dl_nth, Option.map_some, ↓fa_app0, ↓wA, ↓wC, wB, frzBE, frzBS, Nat.reduceEqDiff, Nat.reduceAdd, Nat.reduceSub, reduceIte, reduceCtorEq, Nat.reduceBEq, Nat.reduceLT, decide_true])
        | (refine call_det (hO) rfl rfl ?_)
        | (refine callP_det (hO) rfl rfl ?_)
        | (with_reducible refine onI_bare ?_ ?_; focus (simp only [InR]; omega))
        | (with_reducible refine onI_any fun m hm1 hm2 => ?_)
        | (refine execG_split (fun h => ?_) (fun h => ?_) <;> simp only [h])
        | (refine execC_split (fun h => ?_) (fun h => ?_) <;> (try simp only [h]))
        | (refine onPick_split (fun h => ?_) (fun h => ?_) <;> (try simp only [h])))
    have hI := key m 1 (by rw [hns]; rfl) (fun hg => by
      rw [hin]
      have hb := (okA_parts ((goodA_ok hg).2.2 l (List.mem_of_getElem? hl))).1
      exact hm2 (by simp only [InR]; omega))
    have hG1 := hG' m 1
    refine exec_gh1 (freeze 1 none [4] rfl rfl rfl) ?_
    simp only [obSet, hdp4, D.unown, ↓wA, ↓wC, wB, frzBE, frzBS, Nat.reduceEqDiff, Nat.reduceAdd, Nat.reduceSub, reduceIte, reduceCtorEq, Nat.reduceBEq, Nat.reduceLT, decide_true]
    generalize hgb : goodA (xs ++ [_]) = b at hG1
    have hI := hI b hgb
    clear hgb
    cases b
    all_goals
      repeat' (first
          | (simp only [dl_len, ints_noOwn, hy, ↓rd_app, App.noOwn, App.unown, oa_size, oa_isV, hs, onC_true, happ, hdo0, hdg0, ↓wA, ↓wC, wB, frzBE, frzBS, Nat.reduceEqDiff, Nat.reduceAdd, Nat.reduceSub, reduceIte, reduceCtorEq, Nat.reduceBEq, Nat.reduceLT, decide_true])
          | (refine call_det (hC) rfl rfl ?_)
          | (refine callP_det (hC) rfl rfl ?_)
          | (refine call_det (hG1) rfl rfl ?_)
          | (refine callP_det (hG1) rfl rfl ?_)
          | (refine onJ_q ?_)
          | (with_reducible refine And.intro ?_ ?_)
          | (with_reducible refine onC_i ?_ ?_; focus omega)
          | (with_reducible refine onC_i ?_ ?_; focus (simp; done))
          | (refine execG_split (fun h => ?_) (fun h => ?_) <;> simp only [h])
          | (refine execC_split (fun h => ?_) (fun h => ?_) <;> (try simp only [h]))
          | (refine onPick_split (fun h => ?_) (fun h => ?_) <;> (try simp only [h])))
      all_goals
        rw [hI]
        rfl
end Go.Pe.Try
