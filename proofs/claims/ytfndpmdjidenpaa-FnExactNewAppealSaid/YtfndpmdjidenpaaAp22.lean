/- A new appeal as the program has it, walked. -/
import Derived.Test.YtfndpmdjidenpaaAp21
set_option maxRecDepth 100000
set_option maxHeartbeats 4000000
set_option linter.all false
namespace Go.Pe.Try
open Go.Proofs.Try
theorem nth_snoc (f : App → D) : ∀ (xs : List App) (y : D), ((dl f xs).app (D.cons y .nil)).nth xs.length = some y
  | [], y => rfl
  | x :: xs, y => nth_snoc f xs y
theorem setN_snoc (f : App → D) : ∀ (xs : List App) (y z : D), ((dl f xs).app (D.cons y .nil)).setN xs.length z = (dl f xs).app (D.cons z .nil)
  | [], y, z => rfl
  | x :: xs, y, z => by
    show D.cons (f x) (((dl f xs).app (D.cons y .nil)).setN xs.length z) = D.cons (f x) ((dl f xs).app (D.cons z .nil))
    rw [setN_snoc f xs y z]
theorem newAppeal_fn (xs : List App) (q d : Int) (a : List Int) (hlen : xs.length ≤ 1048576) (hx : ∀ x ∈ xs, x.ok0) (ha : a.length ≤ 1048576) : Fn prog 34 [.sl false 6 (appsD xs), .int .i64 q, .int .i64 d, .sl false 1 (dl iD a)] (fun rs => rs = newR App.o xs q d a) := by
  have hA := areAppeals_fn xs hlen hx
  have hK := cloneI_fn a ha
  have hC := copyAppeals_fn xs hlen hx
  cases hg : goodA xs with
  | false =>
    rw [hg] at hA
    refine Fn_ofg (ps := [[1, 1, 1, 1, 1, 1, 0, 0], [1, 1, 1, 1, 1, 1, 0, 0], [1, 1, 1, 1, 1, 0], [1, 1, 1, 1, 1, 0]]) (fn := f34) (by exact func34) c34 r34 (n := 48) (by rfl) (rv := [.tmp 8, .tmp 9, .tmp 10]) (by rfl) (by simp) ?_
    unfold m34
    simp only [ghAll, ghAt]
    repeat' (first
        | (simp only [↓wA, ↓wC, wB, frzBE, frzBS, Nat.reduceEqDiff, Nat.reduceAdd, Nat.reduceSub, reduceIte, reduceCtorEq, Nat.reduceBEq, Nat.reduceLT, decide_true])
        | (refine call_det (hA) rfl rfl ?_)
        | (refine callP_det (hA) rfl rfl ?_)
        | (refine execG_split (fun h => ?_) (fun h => ?_) <;> simp only [h])
        | (refine execC_split (fun h => ?_) (fun h => ?_) <;> (try simp only [h]))
        | (refine onPick_split (fun h => ?_) (fun h => ?_) <;> (try simp only [h])))
    refine take_nil 6 ?_
    rw [newR, newOK, hg]
    simp
  | true =>
    rw [hg] at hA
    have hok := goodA_ok hg
    have hraw : D.st (.cons (.int .i64 1) (.cons (.int .i64 q) (.cons (.int .i64 d) (.cons (.sl true 1 (dl iD a)) (.cons (.sl true 1 .nil) (.cons (.int .i64 0) .nil)))))) = App.p { i := 1, q := q, d := d, a := a, h := [], s := 0 } (.sl true 1 (dl iD a)) (.sl true 1 .nil) := rfl
    have hv : ∀ y : App, ∀ u v : D, (y.p u v).isV = true := fun _ _ _ => rfl
    have hz : ∀ y : App, (y.p (.sl true 1 (dl iD a)) (.sl true 1 .nil)).size = 6 := fun _ => rfl
    have hln : ∀ q v, (D.lnk q v).noOwn = true := fun _ _ => rfl
    have hls : ∀ q v, (D.lnk q v).size = 1 := fun _ _ => rfl
    have hget3 : ∀ (y : App) (u v : D), dget [3] (y.p u v) = some u := fun _ _ _ => rfl
    have hget4 : ∀ (y : App) (u v : D), dget [4] (y.p u v) = some v := fun _ _ _ => rfl
    have hset3 : ∀ (y : App) (u v w : D), dset [3] (y.p u v) w = y.p w v := fun _ _ _ _ => rfl
    have hset4 : ∀ (y : App) (u v w : D), dset [4] (y.p u v) w = y.p u w := fun _ _ _ _ => rfl
    have hns' := fun y => nth_snoc App.o xs y
    have hss' := fun y z => setN_snoc App.o xs y z
    have hy : ∀ m s : Int, (dl App.o xs).app (D.cons (App.p { i := m, q := q, d := d, a := a, h := [], s := s } (.sl true 1 (dl iD a)) (.sl true 1 .nil)) .nil) = dl App.o (xs ++ [{ i := m, q := q, d := d, a := a, h := [], s := s }]) := fun m s => app_one (f := App.o) xs { i := m, q := q, d := d, a := a, h := [], s := s }
    have hG' : ∀ m s : Int, Fn prog 15 [.sl false 6 (dl App.o (xs ++ [{ i := m, q := q, d := d, a := a, h := [], s := s }])).unown] (fun rs => rs = [.bool (goodA (xs ++ [{ i := m, q := q, d := d, a := a, h := [], s := s }]))]) := fun m s => by
      rw [dlo_unown]
      refine areAppeals_fn _ (by have := hok.1; simp; omega) (fun x hx' => ?_)
      rcases List.mem_append.1 hx' with h | h
      · exact hx x h
      · rw [List.mem_singleton.1 h]; exact ⟨ha, by simp⟩
    have key : ∀ m s : Int, s = newS a → m = newI xs → ∀ b : Bool, goodA (xs ++ [{ i := m, q := q, d := d, a := a, h := [], s := s }]) = b → newR App.o xs q d a = if b = true then [.sl true 6 (dl App.o (xs ++ [{ i := m, q := q, d := d, a := a, h := [], s := s }])), .int .i64 m, .bool true] else [.sl true 6 .nil, .int .i64 0, .bool false] := by
      intro m s h1 h2 b h3
      subst h1 h2
      unfold newR newOK
      rw [show newA xs q d a = { i := newI xs, q := q, d := d, a := a, h := [], s := newS a } from rfl, h3, hg, Bool.true_and]
    cases hs : decide ((a.length : Int) = 0)
    all_goals
      have hns := newS_lt hs
      rcases Nat.eq_zero_or_pos xs.length with hnil | hpos
    case false.inl =>
      have hl0 : decide ((0 : Int) < (xs.length : Int)) = false := decide_eq_false (by omega)
      have hl1 : (0 : Int) ≤ (xs.length : Int) := by omega
      have hl2 : (0 : Int) ≤ (xs.length : Int) := by omega
      have hI := key 1 0 (by rw [hns]; rfl) (by rw [List.length_eq_zero_iff.1 hnil]; rfl)
      have hG1 := hG' 1 0
      refine Fn_ofg (ps := [[1, 1, 1, 1, 1, 1, 0, 0], [1, 1, 1, 1, 1, 1, 0, 0], [1, 1, 1, 1, 1, 0], [1, 1, 1, 1, 1, 0]]) (fn := f34) (by exact func34) c34 r34 (n := 48) (by rfl) (rv := [.tmp 8, .tmp 9, .tmp 10]) (by rfl) (by simp) ?_
      unfold m34
      simp only [ghAll, ghAt]
      repeat' (first
          | (simp only [dl_len, ints_noOwn, hraw, hs, hl0, hv, hz, onC_true, doff_p0, dget_p0, dset_p0, doff_p5, dget_p5, dset_p5, hl1, hl2, dl_nth, Option.map_some, ↓fa_app0, ↓wA, ↓wC, wB, frzBE, frzBS, Nat.reduceEqDiff, Nat.reduceAdd, Nat.reduceSub, reduceIte, reduceCtorEq, Nat.reduceBEq, Nat.reduceLT, decide_true])
          | (refine call_det (hA) rfl rfl ?_)
          | (refine callP_det (hA) rfl rfl ?_)
          | (refine call_det (hK) rfl rfl ?_)
          | (refine callP_det (hK) rfl rfl ?_)
          | (with_reducible refine onI_bare ?_ ?_; focus (simp only [InR]; omega))
          | (refine execG_split (fun h => ?_) (fun h => ?_) <;> simp only [h])
          | (refine execC_split (fun h => ?_) (fun h => ?_) <;> (try simp only [h]))
          | (refine onPick_split (fun h => ?_) (fun h => ?_) <;> (try simp only [h])))
      refine exec_gh _ (unlink 2 none [3] (es := 1) (xs := dl iD a) rfl rfl) fun v1 => ?_
      simp only [obSet, hset3, ↓wA, ↓wC, wB, frzBE, frzBS, Nat.reduceEqDiff, Nat.reduceAdd, Nat.reduceSub, reduceIte, reduceCtorEq, Nat.reduceBEq, Nat.reduceLT, decide_true]
      refine exec_gh _ (unlink 2 none [4] (es := 1) (xs := .nil) rfl rfl) fun v2 => ?_
      simp only [obSet, hset4, ↓wA, ↓wC, wB, frzBE, frzBS, Nat.reduceEqDiff, Nat.reduceAdd, Nat.reduceSub, reduceIte, reduceCtorEq, Nat.reduceBEq, Nat.reduceLT, decide_true]
      repeat' (first
          | (simp only [dl_len, ints_noOwn, rd_p, size_p, isV_p, noOwn_p, hln, hls, hs, onC_true, ↓wA, ↓wC, wB, frzBE, frzBS, Nat.reduceEqDiff, Nat.reduceAdd, Nat.reduceSub, reduceIte, reduceCtorEq, Nat.reduceBEq, Nat.reduceLT, decide_true])
          | (refine call_det hC rfl rfl ?_)
          | (refine onJ_q ?_)
          | (with_reducible refine And.intro ?_ ?_)
          | (with_reducible refine onC_i ?_ ?_; focus omega)
          | (with_reducible refine onC_i ?_ ?_; focus (simp; done))
          | (refine execG_split (fun h => ?_) (fun h => ?_) <;> simp only [h])
          | (refine execC_split (fun h => ?_) (fun h => ?_) <;> (try simp only [h]))
          | (refine onPick_split (fun h => ?_) (fun h => ?_) <;> (try simp only [h])))
      · refine exec_gh1 (relink 7 4 3 (some xs.length) [3] rfl (by simp only [obPart, hns', Option.bind_some, hget3]) rfl rfl (by decide) rfl) ?_
        simp only [obSet, hns', hss', hset3, Option.getD_some, ↓wA, ↓wC, wB, frzBE, frzBS, Nat.reduceEqDiff, Nat.reduceAdd, Nat.reduceSub, reduceIte, reduceCtorEq, Nat.reduceBEq, Nat.reduceLT, decide_true]
        refine exec_gh1 (relink 7 6 5 (some xs.length) [4] rfl (by simp only [obPart, hns', Option.bind_some, hget4]) rfl rfl (by decide) rfl) ?_
        simp only [obSet, hns', hss', hset4, hy, Option.getD_some, ↓wA, ↓wC, wB, frzBE, frzBS, Nat.reduceEqDiff, Nat.reduceAdd, Nat.reduceSub, reduceIte, reduceCtorEq, Nat.reduceBEq, Nat.reduceLT, decide_true]
        generalize hgb : goodA (xs ++ [_]) = b at hG1
        have hI := hI b hgb
        clear hgb
        cases b
        all_goals
          repeat' (first
              | (simp only [rd_p, hs, onC_true, doff_p0, dget_p0, ↓wA, ↓wC, wB, frzBE, frzBS, Nat.reduceEqDiff, Nat.reduceAdd, Nat.reduceSub, reduceIte, reduceCtorEq, Nat.reduceBEq, Nat.reduceLT, decide_true])
              | (refine call_det (hG1) rfl rfl ?_)
              | (refine callP_det (hG1) rfl rfl ?_)
              | (refine take_nil 6 ?_)
              | (refine execG_split (fun h => ?_) (fun h => ?_) <;> simp only [h])
              | (refine execC_split (fun h => ?_) (fun h => ?_) <;> (try simp only [h]))
              | (refine onPick_split (fun h => ?_) (fun h => ?_) <;> (try simp only [h])))
          all_goals
            rw [hI]
            rfl
      · refine exec_gh1 (relink 8 4 3 (some xs.length) [3] rfl (by simp only [obPart, hns', Option.bind_some, hget3]) rfl rfl (by decide) rfl) ?_
        simp only [obSet, hns', hss', hset3, Option.getD_some, ↓wA, ↓wC, wB, frzBE, frzBS, Nat.reduceEqDiff, Nat.reduceAdd, Nat.reduceSub, reduceIte, reduceCtorEq, Nat.reduceBEq, Nat.reduceLT, decide_true]
        refine exec_gh1 (relink 8 6 5 (some xs.length) [4] rfl (by simp only [obPart, hns', Option.bind_some, hget4]) rfl rfl (by decide) rfl) ?_
        simp only [obSet, hns', hss', hset4, hy, Option.getD_some, ↓wA, ↓wC, wB, frzBE, frzBS, Nat.reduceEqDiff, Nat.reduceAdd, Nat.reduceSub, reduceIte, reduceCtorEq, Nat.reduceBEq, Nat.reduceLT, decide_true]
        generalize hgb : goodA (xs ++ [_]) = b at hG1
        have hI := hI b hgb
        clear hgb
        cases b
        all_goals
          repeat' (first
              | (simp only [rd_p, hs, onC_true, doff_p0, dget_p0, ↓wA, ↓wC, wB, frzBE, frzBS, Nat.reduceEqDiff, Nat.reduceAdd, Nat.reduceSub, reduceIte, reduceCtorEq, Nat.reduceBEq, Nat.reduceLT, decide_true])
              | (refine call_det (hG1) rfl rfl ?_)
              | (refine callP_det (hG1) rfl rfl ?_)
              | (refine take_nil 6 ?_)
              | (refine execG_split (fun h => ?_) (fun h => ?_) <;> simp only [h])
              | (refine execC_split (fun h => ?_) (fun h => ?_) <;> (try simp only [h]))
              | (refine onPick_split (fun h => ?_) (fun h => ?_) <;> (try simp only [h])))
          all_goals
            rw [hI]
            rfl
    case false.inr =>
      have hl0 : decide ((0 : Int) < (xs.length : Int)) = true := decide_eq_true (by omega)
      obtain ⟨l, hl, hl1, hl2, hin⟩ := lastA hpos
      have hb := (okA_parts (hok.2.2 l (List.mem_of_getElem? hl))).1
      have hI := key (l.i + 1) 0 (by rw [hns]; rfl) hin.symm
      have hG1 := hG' (l.i + 1) 0
      refine Fn_ofg (ps := [[1, 1, 1, 1, 1, 1, 0, 0], [1, 1, 1, 1, 1, 1, 0, 0], [1, 1, 1, 1, 1, 0], [1, 1, 1, 1, 1, 0]]) (fn := f34) (by exact func34) c34 r34 (n := 48) (by rfl) (rv := [.tmp 8, .tmp 9, .tmp 10]) (by rfl) (by simp) ?_
      unfold m34
      simp only [ghAll, ghAt]
      repeat' (first
          | (simp only [dl_len, ints_noOwn, hraw, hs, hl0, hv, hz, onC_true, doff_p0, dget_p0, dset_p0, doff_p5, dget_p5, dset_p5, hl1, hl2, dl_nth, Option.map_some, ↓fa_app0, ↓wA, ↓wC, wB, frzBE, frzBS, Nat.reduceEqDiff, Nat.reduceAdd, Nat.reduceSub, reduceIte, reduceCtorEq, Nat.reduceBEq, Nat.reduceLT, decide_true])
          | (refine call_det (hA) rfl rfl ?_)
          | (refine callP_det (hA) rfl rfl ?_)
          | (refine call_det (hK) rfl rfl ?_)
          | (refine callP_det (hK) rfl rfl ?_)
          | (with_reducible refine onI_bare ?_ ?_; focus (simp only [InR]; omega))
          | (refine execG_split (fun h => ?_) (fun h => ?_) <;> simp only [h])
          | (refine execC_split (fun h => ?_) (fun h => ?_) <;> (try simp only [h]))
          | (refine onPick_split (fun h => ?_) (fun h => ?_) <;> (try simp only [h])))
      refine exec_gh _ (unlink 2 none [3] (es := 1) (xs := dl iD a) rfl rfl) fun v1 => ?_
      simp only [obSet, hset3, ↓wA, ↓wC, wB, frzBE, frzBS, Nat.reduceEqDiff, Nat.reduceAdd, Nat.reduceSub, reduceIte, reduceCtorEq, Nat.reduceBEq, Nat.reduceLT, decide_true]
      refine exec_gh _ (unlink 2 none [4] (es := 1) (xs := .nil) rfl rfl) fun v2 => ?_
      simp only [obSet, hset4, ↓wA, ↓wC, wB, frzBE, frzBS, Nat.reduceEqDiff, Nat.reduceAdd, Nat.reduceSub, reduceIte, reduceCtorEq, Nat.reduceBEq, Nat.reduceLT, decide_true]
      repeat' (first
          | (simp only [dl_len, ints_noOwn, rd_p, size_p, isV_p, noOwn_p, hln, hls, hs, onC_true, ↓wA, ↓wC, wB, frzBE, frzBS, Nat.reduceEqDiff, Nat.reduceAdd, Nat.reduceSub, reduceIte, reduceCtorEq, Nat.reduceBEq, Nat.reduceLT, decide_true])
          | (refine call_det hC rfl rfl ?_)
          | (refine onJ_q ?_)
          | (with_reducible refine And.intro ?_ ?_)
          | (with_reducible refine onC_i ?_ ?_; focus omega)
          | (with_reducible refine onC_i ?_ ?_; focus (simp; done))
          | (refine execG_split (fun h => ?_) (fun h => ?_) <;> simp only [h])
          | (refine execC_split (fun h => ?_) (fun h => ?_) <;> (try simp only [h]))
          | (refine onPick_split (fun h => ?_) (fun h => ?_) <;> (try simp only [h])))
      · refine exec_gh1 (relink 7 4 3 (some xs.length) [3] rfl (by simp only [obPart, hns', Option.bind_some, hget3]) rfl rfl (by decide) rfl) ?_
        simp only [obSet, hns', hss', hset3, Option.getD_some, ↓wA, ↓wC, wB, frzBE, frzBS, Nat.reduceEqDiff, Nat.reduceAdd, Nat.reduceSub, reduceIte, reduceCtorEq, Nat.reduceBEq, Nat.reduceLT, decide_true]
        refine exec_gh1 (relink 7 6 5 (some xs.length) [4] rfl (by simp only [obPart, hns', Option.bind_some, hget4]) rfl rfl (by decide) rfl) ?_
        simp only [obSet, hns', hss', hset4, hy, Option.getD_some, ↓wA, ↓wC, wB, frzBE, frzBS, Nat.reduceEqDiff, Nat.reduceAdd, Nat.reduceSub, reduceIte, reduceCtorEq, Nat.reduceBEq, Nat.reduceLT, decide_true]
        generalize hgb : goodA (xs ++ [_]) = b at hG1
        have hI := hI b hgb
        clear hgb
        cases b
        all_goals
          repeat' (first
              | (simp only [rd_p, hs, onC_true, doff_p0, dget_p0, ↓wA, ↓wC, wB, frzBE, frzBS, Nat.reduceEqDiff, Nat.reduceAdd, Nat.reduceSub, reduceIte, reduceCtorEq, Nat.reduceBEq, Nat.reduceLT, decide_true])
              | (refine call_det (hG1) rfl rfl ?_)
              | (refine callP_det (hG1) rfl rfl ?_)
              | (refine take_nil 6 ?_)
              | (refine execG_split (fun h => ?_) (fun h => ?_) <;> simp only [h])
              | (refine execC_split (fun h => ?_) (fun h => ?_) <;> (try simp only [h]))
              | (refine onPick_split (fun h => ?_) (fun h => ?_) <;> (try simp only [h])))
          all_goals
            rw [hI]
            rfl
      · refine exec_gh1 (relink 8 4 3 (some xs.length) [3] rfl (by simp only [obPart, hns', Option.bind_some, hget3]) rfl rfl (by decide) rfl) ?_
        simp only [obSet, hns', hss', hset3, Option.getD_some, ↓wA, ↓wC, wB, frzBE, frzBS, Nat.reduceEqDiff, Nat.reduceAdd, Nat.reduceSub, reduceIte, reduceCtorEq, Nat.reduceBEq, Nat.reduceLT, decide_true]
        refine exec_gh1 (relink 8 6 5 (some xs.length) [4] rfl (by simp only [obPart, hns', Option.bind_some, hget4]) rfl rfl (by decide) rfl) ?_
        simp only [obSet, hns', hss', hset4, hy, Option.getD_some, ↓wA, ↓wC, wB, frzBE, frzBS, Nat.reduceEqDiff, Nat.reduceAdd, Nat.reduceSub, reduceIte, reduceCtorEq, Nat.reduceBEq, Nat.reduceLT, decide_true]
        generalize hgb : goodA (xs ++ [_]) = b at hG1
        have hI := hI b hgb
        clear hgb
        cases b
        all_goals
          repeat' (first
              | (simp only [rd_p, hs, onC_true, doff_p0, dget_p0, ↓wA, ↓wC, wB, frzBE, frzBS, Nat.reduceEqDiff, Nat.reduceAdd, Nat.reduceSub, reduceIte, reduceCtorEq, Nat.reduceBEq, Nat.reduceLT, decide_true])
              | (refine call_det (hG1) rfl rfl ?_)
              | (refine callP_det (hG1) rfl rfl ?_)
              | (refine take_nil 6 ?_)
              | (refine execG_split (fun h => ?_) (fun h => ?_) <;> simp only [h])
              | (refine execC_split (fun h => ?_) (fun h => ?_) <;> (try simp only [h]))
              | (refine onPick_split (fun h => ?_) (fun h => ?_) <;> (try simp only [h])))
          all_goals
            rw [hI]
            rfl
    case true.inl =>
      have hl0 : decide ((0 : Int) < (xs.length : Int)) = false := decide_eq_false (by omega)
      have hl1 : (0 : Int) ≤ (xs.length : Int) := by omega
      have hl2 : (0 : Int) ≤ (xs.length : Int) := by omega
      have hI := key 1 1 (by rw [hns]; rfl) (by rw [List.length_eq_zero_iff.1 hnil]; rfl)
      have hG1 := hG' 1 1
      refine Fn_ofg (ps := [[1, 1, 1, 1, 1, 1, 0, 0], [1, 1, 1, 1, 1, 1, 0, 0], [1, 1, 1, 1, 1, 0], [1, 1, 1, 1, 1, 0]]) (fn := f34) (by exact func34) c34 r34 (n := 48) (by rfl) (rv := [.tmp 8, .tmp 9, .tmp 10]) (by rfl) (by simp) ?_
      unfold m34
      simp only [ghAll, ghAt]
      repeat' (first
          | (simp only [dl_len, ints_noOwn, hraw, hs, hl0, hv, hz, onC_true, doff_p0, dget_p0, dset_p0, doff_p5, dget_p5, dset_p5, hl1, hl2, dl_nth, Option.map_some, ↓fa_app0, ↓wA, ↓wC, wB, frzBE, frzBS, Nat.reduceEqDiff, Nat.reduceAdd, Nat.reduceSub, reduceIte, reduceCtorEq, Nat.reduceBEq, Nat.reduceLT, decide_true])
          | (refine call_det (hA) rfl rfl ?_)
          | (refine callP_det (hA) rfl rfl ?_)
          | (refine call_det (hK) rfl rfl ?_)
          | (refine callP_det (hK) rfl rfl ?_)
          | (with_reducible refine onI_bare ?_ ?_; focus (simp only [InR]; omega))
          | (refine execG_split (fun h => ?_) (fun h => ?_) <;> simp only [h])
          | (refine execC_split (fun h => ?_) (fun h => ?_) <;> (try simp only [h]))
          | (refine onPick_split (fun h => ?_) (fun h => ?_) <;> (try simp only [h])))
      refine exec_gh _ (unlink 2 none [3] (es := 1) (xs := dl iD a) rfl rfl) fun v1 => ?_
      simp only [obSet, hset3, ↓wA, ↓wC, wB, frzBE, frzBS, Nat.reduceEqDiff, Nat.reduceAdd, Nat.reduceSub, reduceIte, reduceCtorEq, Nat.reduceBEq, Nat.reduceLT, decide_true]
      refine exec_gh _ (unlink 2 none [4] (es := 1) (xs := .nil) rfl rfl) fun v2 => ?_
      simp only [obSet, hset4, ↓wA, ↓wC, wB, frzBE, frzBS, Nat.reduceEqDiff, Nat.reduceAdd, Nat.reduceSub, reduceIte, reduceCtorEq, Nat.reduceBEq, Nat.reduceLT, decide_true]
      repeat' (first
          | (simp only [dl_len, ints_noOwn, rd_p, size_p, isV_p, noOwn_p, hln, hls, hs, onC_true, ↓wA, ↓wC, wB, frzBE, frzBS, Nat.reduceEqDiff, Nat.reduceAdd, Nat.reduceSub, reduceIte, reduceCtorEq, Nat.reduceBEq, Nat.reduceLT, decide_true])
          | (refine call_det hC rfl rfl ?_)
          | (refine onJ_q ?_)
          | (with_reducible refine And.intro ?_ ?_)
          | (with_reducible refine onC_i ?_ ?_; focus omega)
          | (with_reducible refine onC_i ?_ ?_; focus (simp; done))
          | (refine execG_split (fun h => ?_) (fun h => ?_) <;> simp only [h])
          | (refine execC_split (fun h => ?_) (fun h => ?_) <;> (try simp only [h]))
          | (refine onPick_split (fun h => ?_) (fun h => ?_) <;> (try simp only [h])))
      · refine exec_gh1 (relink 7 4 3 (some xs.length) [3] rfl (by simp only [obPart, hns', Option.bind_some, hget3]) rfl rfl (by decide) rfl) ?_
        simp only [obSet, hns', hss', hset3, Option.getD_some, ↓wA, ↓wC, wB, frzBE, frzBS, Nat.reduceEqDiff, Nat.reduceAdd, Nat.reduceSub, reduceIte, reduceCtorEq, Nat.reduceBEq, Nat.reduceLT, decide_true]
        refine exec_gh1 (relink 7 6 5 (some xs.length) [4] rfl (by simp only [obPart, hns', Option.bind_some, hget4]) rfl rfl (by decide) rfl) ?_
        simp only [obSet, hns', hss', hset4, hy, Option.getD_some, ↓wA, ↓wC, wB, frzBE, frzBS, Nat.reduceEqDiff, Nat.reduceAdd, Nat.reduceSub, reduceIte, reduceCtorEq, Nat.reduceBEq, Nat.reduceLT, decide_true]
        generalize hgb : goodA (xs ++ [_]) = b at hG1
        have hI := hI b hgb
        clear hgb
        cases b
        all_goals
          repeat' (first
              | (simp only [rd_p, hs, onC_true, doff_p0, dget_p0, ↓wA, ↓wC, wB, frzBE, frzBS, Nat.reduceEqDiff, Nat.reduceAdd, Nat.reduceSub, reduceIte, reduceCtorEq, Nat.reduceBEq, Nat.reduceLT, decide_true])
              | (refine call_det (hG1) rfl rfl ?_)
              | (refine callP_det (hG1) rfl rfl ?_)
              | (refine take_nil 6 ?_)
              | (refine execG_split (fun h => ?_) (fun h => ?_) <;> simp only [h])
              | (refine execC_split (fun h => ?_) (fun h => ?_) <;> (try simp only [h]))
              | (refine onPick_split (fun h => ?_) (fun h => ?_) <;> (try simp only [h])))
          all_goals
            rw [hI]
            rfl
      · refine exec_gh1 (relink 8 4 3 (some xs.length) [3] rfl (by simp only [obPart, hns', Option.bind_some, hget3]) rfl rfl (by decide) rfl) ?_
        simp only [obSet, hns', hss', hset3, Option.getD_some, ↓wA, ↓wC, wB, frzBE, frzBS, Nat.reduceEqDiff, Nat.reduceAdd, Nat.reduceSub, reduceIte, reduceCtorEq, Nat.reduceBEq, Nat.reduceLT, decide_true]
        refine exec_gh1 (relink 8 6 5 (some xs.length) [4] rfl (by simp only [obPart, hns', Option.bind_some, hget4]) rfl rfl (by decide) rfl) ?_
        simp only [obSet, hns', hss', hset4, hy, Option.getD_some, ↓wA, ↓wC, wB, frzBE, frzBS, Nat.reduceEqDiff, Nat.reduceAdd, Nat.reduceSub, reduceIte, reduceCtorEq, Nat.reduceBEq, Nat.reduceLT, decide_true]
        generalize hgb : goodA (xs ++ [_]) = b at hG1
        have hI := hI b hgb
        clear hgb
        cases b
        all_goals
          repeat' (first
              | (simp only [rd_p, hs, onC_true, doff_p0, dget_p0, ↓wA, ↓wC, wB, frzBE, frzBS, Nat.reduceEqDiff, Nat.reduceAdd, Nat.reduceSub, reduceIte, reduceCtorEq, Nat.reduceBEq, Nat.reduceLT, decide_true])
              | (refine call_det (hG1) rfl rfl ?_)
              | (refine callP_det (hG1) rfl rfl ?_)
              | (refine take_nil 6 ?_)
              | (refine execG_split (fun h => ?_) (fun h => ?_) <;> simp only [h])
              | (refine execC_split (fun h => ?_) (fun h => ?_) <;> (try simp only [h]))
              | (refine onPick_split (fun h => ?_) (fun h => ?_) <;> (try simp only [h])))
          all_goals
            rw [hI]
            rfl
    case true.inr =>
      have hl0 : decide ((0 : Int) < (xs.length : Int)) = true := decide_eq_true (by omega)
      obtain ⟨l, hl, hl1, hl2, hin⟩ := lastA hpos
      have hb := (okA_parts (hok.2.2 l (List.mem_of_getElem? hl))).1
      have hI := key (l.i + 1) 1 (by rw [hns]; rfl) hin.symm
      have hG1 := hG' (l.i + 1) 1
      refine Fn_ofg (ps := [[1, 1, 1, 1, 1, 1, 0, 0], [1, 1, 1, 1, 1, 1, 0, 0], [1, 1, 1, 1, 1, 0], [1, 1, 1, 1, 1, 0]]) (fn := f34) (by exact func34) c34 r34 (n := 48) (by rfl) (rv := [.tmp 8, .tmp 9, .tmp 10]) (by rfl) (by simp) ?_
      unfold m34
      simp only [ghAll, ghAt]
      repeat' (first
          | (simp only [dl_len, ints_noOwn, hraw, hs, hl0, hv, hz, onC_true, doff_p0, dget_p0, dset_p0, doff_p5, dget_p5, dset_p5, hl1, hl2, dl_nth, Option.map_some, ↓fa_app0, ↓wA, ↓wC, wB, frzBE, frzBS, Nat.reduceEqDiff, Nat.reduceAdd, Nat.reduceSub, reduceIte, reduceCtorEq, Nat.reduceBEq, Nat.reduceLT, decide_true])
          | (refine call_det (hA) rfl rfl ?_)
          | (refine callP_det (hA) rfl rfl ?_)
          | (refine call_det (hK) rfl rfl ?_)
          | (refine callP_det (hK) rfl rfl ?_)
          | (with_reducible refine onI_bare ?_ ?_; focus (simp only [InR]; omega))
          | (refine execG_split (fun h => ?_) (fun h => ?_) <;> simp only [h])
          | (refine execC_split (fun h => ?_) (fun h => ?_) <;> (try simp only [h]))
          | (refine onPick_split (fun h => ?_) (fun h => ?_) <;> (try simp only [h])))
      refine exec_gh _ (unlink 2 none [3] (es := 1) (xs := dl iD a) rfl rfl) fun v1 => ?_
      simp only [obSet, hset3, ↓wA, ↓wC, wB, frzBE, frzBS, Nat.reduceEqDiff, Nat.reduceAdd, Nat.reduceSub, reduceIte, reduceCtorEq, Nat.reduceBEq, Nat.reduceLT, decide_true]
      refine exec_gh _ (unlink 2 none [4] (es := 1) (xs := .nil) rfl rfl) fun v2 => ?_
      simp only [obSet, hset4, ↓wA, ↓wC, wB, frzBE, frzBS, Nat.reduceEqDiff, Nat.reduceAdd, Nat.reduceSub, reduceIte, reduceCtorEq, Nat.reduceBEq, Nat.reduceLT, decide_true]
      repeat' (first
          | (simp only [dl_len, ints_noOwn, rd_p, size_p, isV_p, noOwn_p, hln, hls, hs, onC_true, ↓wA, ↓wC, wB, frzBE, frzBS, Nat.reduceEqDiff, Nat.reduceAdd, Nat.reduceSub, reduceIte, reduceCtorEq, Nat.reduceBEq, Nat.reduceLT, decide_true])
          | (refine call_det hC rfl rfl ?_)
          | (refine onJ_q ?_)
          | (with_reducible refine And.intro ?_ ?_)
          | (with_reducible refine onC_i ?_ ?_; focus omega)
          | (with_reducible refine onC_i ?_ ?_; focus (simp; done))
          | (refine execG_split (fun h => ?_) (fun h => ?_) <;> simp only [h])
          | (refine execC_split (fun h => ?_) (fun h => ?_) <;> (try simp only [h]))
          | (refine onPick_split (fun h => ?_) (fun h => ?_) <;> (try simp only [h])))
      · refine exec_gh1 (relink 7 4 3 (some xs.length) [3] rfl (by simp only [obPart, hns', Option.bind_some, hget3]) rfl rfl (by decide) rfl) ?_
        simp only [obSet, hns', hss', hset3, Option.getD_some, ↓wA, ↓wC, wB, frzBE, frzBS, Nat.reduceEqDiff, Nat.reduceAdd, Nat.reduceSub, reduceIte, reduceCtorEq, Nat.reduceBEq, Nat.reduceLT, decide_true]
        refine exec_gh1 (relink 7 6 5 (some xs.length) [4] rfl (by simp only [obPart, hns', Option.bind_some, hget4]) rfl rfl (by decide) rfl) ?_
        simp only [obSet, hns', hss', hset4, hy, Option.getD_some, ↓wA, ↓wC, wB, frzBE, frzBS, Nat.reduceEqDiff, Nat.reduceAdd, Nat.reduceSub, reduceIte, reduceCtorEq, Nat.reduceBEq, Nat.reduceLT, decide_true]
        generalize hgb : goodA (xs ++ [_]) = b at hG1
        have hI := hI b hgb
        clear hgb
        cases b
        all_goals
          repeat' (first
              | (simp only [rd_p, hs, onC_true, doff_p0, dget_p0, ↓wA, ↓wC, wB, frzBE, frzBS, Nat.reduceEqDiff, Nat.reduceAdd, Nat.reduceSub, reduceIte, reduceCtorEq, Nat.reduceBEq, Nat.reduceLT, decide_true])
              | (refine call_det (hG1) rfl rfl ?_)
              | (refine callP_det (hG1) rfl rfl ?_)
              | (refine take_nil 6 ?_)
              | (refine execG_split (fun h => ?_) (fun h => ?_) <;> simp only [h])
              | (refine execC_split (fun h => ?_) (fun h => ?_) <;> (try simp only [h]))
              | (refine onPick_split (fun h => ?_) (fun h => ?_) <;> (try simp only [h])))
          all_goals
            rw [hI]
            rfl
      · refine exec_gh1 (relink 8 4 3 (some xs.length) [3] rfl (by simp only [obPart, hns', Option.bind_some, hget3]) rfl rfl (by decide) rfl) ?_
        simp only [obSet, hns', hss', hset3, Option.getD_some, ↓wA, ↓wC, wB, frzBE, frzBS, Nat.reduceEqDiff, Nat.reduceAdd, Nat.reduceSub, reduceIte, reduceCtorEq, Nat.reduceBEq, Nat.reduceLT, decide_true]
        refine exec_gh1 (relink 8 6 5 (some xs.length) [4] rfl (by simp only [obPart, hns', Option.bind_some, hget4]) rfl rfl (by decide) rfl) ?_
        simp only [obSet, hns', hss', hset4, hy, Option.getD_some, ↓wA, ↓wC, wB, frzBE, frzBS, Nat.reduceEqDiff, Nat.reduceAdd, Nat.reduceSub, reduceIte, reduceCtorEq, Nat.reduceBEq, Nat.reduceLT, decide_true]
        generalize hgb : goodA (xs ++ [_]) = b at hG1
        have hI := hI b hgb
        clear hgb
        cases b
        all_goals
          repeat' (first
              | (simp only [rd_p, hs, onC_true, doff_p0, dget_p0, ↓wA, ↓wC, wB, frzBE, frzBS, Nat.reduceEqDiff, Nat.reduceAdd, Nat.reduceSub, reduceIte, reduceCtorEq, Nat.reduceBEq, Nat.reduceLT, decide_true])
              | (refine call_det (hG1) rfl rfl ?_)
              | (refine callP_det (hG1) rfl rfl ?_)
              | (refine take_nil 6 ?_)
              | (refine execG_split (fun h => ?_) (fun h => ?_) <;> simp only [h])
              | (refine execC_split (fun h => ?_) (fun h => ?_) <;> (try simp only [h]))
              | (refine onPick_split (fun h => ?_) (fun h => ?_) <;> (try simp only [h])))
          all_goals
            rw [hI]
            rfl
end Go.Pe.Try
