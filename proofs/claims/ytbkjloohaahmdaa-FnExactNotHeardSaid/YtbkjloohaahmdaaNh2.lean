/- The parties that an appeal has not heard, walked. -/
import Derived.Test.YtbkjloohaahmdaaNh1
set_option maxRecDepth 100000
set_option maxHeartbeats 4000000
set_option linter.all false
namespace Go.Pe.Try
open Go.Proofs.Try
def leftA (x : App) : List Int := kept (fun n => x.h.contains n) x.a
def nhR (xs : List App) (id : Int) : Option (List Int) := match xs[(findA xs id).toNat]? with
  | some x => if (decide (0 ≤ findA xs id) && goodA xs) = true then some (leftA x) else none
  | none => none
def intsR : Option (List Int) → List D
  | some v => [.sl true 1 (dl iD v), .bool true]
  | none => [.sl true 1 (dl iD []), .bool false]
theorem nhR_neg {xs : List App} {id : Int} (h : decide (0 ≤ findA xs id) = false) : nhR xs id = none := by
  unfold nhR
  rw [h]
  split <;> simp
theorem nhR_at {xs : List App} {id : Int} {i : Nat} {x : App} (h : findA xs id = (i : Int)) (hr : xs[i]? = some x) : nhR xs id = if goodA xs = true then some (leftA x) else none := by
  unfold nhR
  rw [h, Int.toNat_natCast, hr]
  simp
theorem nhClo_fn (xs : List App) (i : Nat) (x : App) (n : Int) (hr : xs[i]? = some x) (hx : x.ok0) : Fn prog 69 [iD n, .ptr (.sl false 6 (appsD xs)), .ptr (.int .i64 i)] (fun rs => rs = [.bool (x.h.contains n)]) := by
  have hC := containsI_fn x.h n hx.2
  have h0 : (0 : Int) ≤ (i : Int) := by omega
  refine Fn_of' (fn := f69) (by exact func69) c69 r69 (n := 12) (by rfl) (rv := [.tmp 4]) (by rfl) (by simp) ?_
  unfold m69
  repeat' (first
      | (simp only [dl_nth, h0, Int.toNat_natCast, hr, Option.map_some, onC_true, ↓fa_app4, ints_noOwn, apps_noOwn, ↓wA, ↓wC, wB, frzBE, frzBS, Nat.reduceEqDiff, Nat.reduceAdd, Nat.reduceSub, reduceIte, reduceCtorEq, Nat.reduceBEq, Nat.reduceLT, decide_true])
      | (refine call_det (hC) rfl rfl ?_)
      | (refine callP_det (hC) rfl rfl ?_)
      | (refine execG_split (fun h => ?_) (fun h => ?_) <;> simp only [h])
      | (refine execC_split (fun h => ?_) (fun h => ?_) <;> (try simp only [h]))
      | (refine onPick_split (fun h => ?_) (fun h => ?_) <;> (try simp only [h])))
theorem notHeard_fn (xs : List App) (id : Int) (hlen : xs.length ≤ 1048576) (hx : ∀ x ∈ xs, x.ok0) : Fn prog 10 [.sl false 6 (appsD xs), .int .i64 id] (fun rs => rs = intsR (nhR xs id)) := by
  have hF := appealAt_fn xs id hlen
  have hG := areAppeals_fn xs hlen hx
  rcases find_cases xs id with ⟨hn, hn'⟩ | ⟨i, x, hi, hr, _⟩
  · rw [nhR_neg hn']
    refine Fn_of' (fn := f10) (by exact func10) c10 r10 (n := 25) (by rfl) (rv := [.tmp 4, .tmp 5]) (by rfl) (by simp) ?_
    unfold m10
    repeat' (first
        | (simp only [hn, apps_noOwn, ↓wA, ↓wC, wB, frzBE, frzBS, Nat.reduceEqDiff, Nat.reduceAdd, Nat.reduceSub, reduceIte, reduceCtorEq, Nat.reduceBEq, Nat.reduceLT, decide_true])
        | (refine call_det (hF) rfl rfl ?_)
        | (refine callP_det (hF) rfl rfl ?_)
        | (refine call_det (hG) rfl rfl ?_)
        | (refine callP_det (hG) rfl rfl ?_)
        | (refine take_nil 1 ?_)
        | (refine execG_split (fun h => ?_) (fun h => ?_) <;> simp only [h])
        | (refine execC_split (fun h => ?_) (fun h => ?_) <;> (try simp only [h]))
        | (refine onPick_split (fun h => ?_) (fun h => ?_) <;> (try simp only [h])))
    all_goals rfl
  · rw [nhR_at hi hr]
    rw [hi] at hF
    have hm := List.mem_of_getElem? hr
    have h0 : (0 : Int) ≤ (i : Int) := by omega
    have hn : decide ((i : Int) < 0) = false := decide_eq_false (by omega)
    cases hg : goodA xs with
    | false =>
      rw [hg] at hG
      refine Fn_of' (fn := f10) (by exact func10) c10 r10 (n := 25) (by rfl) (rv := [.tmp 4, .tmp 5]) (by rfl) (by simp) ?_
      unfold m10
      repeat' (first
          | (simp only [hn, apps_noOwn, ↓wA, ↓wC, wB, frzBE, frzBS, Nat.reduceEqDiff, Nat.reduceAdd, Nat.reduceSub, reduceIte, reduceCtorEq, Nat.reduceBEq, Nat.reduceLT, decide_true])
          | (refine call_det (hF) rfl rfl ?_)
          | (refine callP_det (hF) rfl rfl ?_)
          | (refine call_det (hG) rfl rfl ?_)
          | (refine callP_det (hG) rfl rfl ?_)
          | (refine take_nil 1 ?_)
          | (refine execG_split (fun h => ?_) (fun h => ?_) <;> simp only [h])
          | (refine execC_split (fun h => ?_) (fun h => ?_) <;> (try simp only [h]))
          | (refine onPick_split (fun h => ?_) (fun h => ?_) <;> (try simp only [h])))
      all_goals rfl
    | true =>
      rw [hg] at hG
      have hC := cloneI_fn x.a (hx x hm).1
      have hD := deleteFunc_fn (fun n => x.h.contains n) 69 (.cons (.ptr (.sl false 6 (appsD xs))) (.cons (.ptr (.int .i64 i)) .nil)) x.a rfl en69 (hx x hm).1 (fun n _ => nhClo_fn xs i x n hr (hx x hm))
      refine Fn_ofg (ps := [[1, 1, 1, 0], [1, 1, 1, 0]]) (fn := f10) (by exact func10) c10 r10 (n := 25) (by rfl) (rv := [.tmp 4, .tmp 5]) (by rfl) (by simp) ?_
      unfold m10
      simp only [ghAll, ghAt]
      repeat' (first
          | (simp only [hn, apps_noOwn, ↓wA, ↓wC, wB, frzBE, frzBS, Nat.reduceEqDiff, Nat.reduceAdd, Nat.reduceSub, reduceIte, reduceCtorEq, Nat.reduceBEq, Nat.reduceLT, decide_true])
          | (refine call_det (hF) rfl rfl ?_)
          | (refine callP_det (hF) rfl rfl ?_)
          | (refine call_det (hG) rfl rfl ?_)
          | (refine callP_det (hG) rfl rfl ?_)
          | (refine execG_split (fun h => ?_) (fun h => ?_) <;> simp only [h])
          | (refine execC_split (fun h => ?_) (fun h => ?_) <;> (try simp only [h]))
          | (refine onPick_split (fun h => ?_) (fun h => ?_) <;> (try simp only [h])))
      refine exec_gh1 (frzB 0 rfl) ?_
      simp only [D.unown, apps_unown, ↓wA, ↓wC, wB, frzBE, frzBS, Nat.reduceEqDiff, Nat.reduceAdd, Nat.reduceSub, reduceIte, reduceCtorEq, Nat.reduceBEq, Nat.reduceLT, decide_true]
      refine exec_gh1 (frzB 1 rfl) ?_
      simp only [D.unown, apps_unown, ↓wA, ↓wC, wB, frzBE, frzBS, Nat.reduceEqDiff, Nat.reduceAdd, Nat.reduceSub, reduceIte, reduceCtorEq, Nat.reduceBEq, Nat.reduceLT, decide_true]
      repeat' (first
          | (simp only [h0, dl_nth, Int.toNat_natCast, hr, Option.map_some, onC_true, ↓fa_app3, ints_noOwn, apps_noOwn, ↓wA, ↓wC, wB, frzBE, frzBS, Nat.reduceEqDiff, Nat.reduceAdd, Nat.reduceSub, reduceIte, reduceCtorEq, Nat.reduceBEq, Nat.reduceLT, decide_true])
          | (refine call_det hC rfl rfl ?_)
          | (refine execG_split (fun h => ?_) (fun h => ?_) <;> simp only [h])
          | (refine execC_split (fun h => ?_) (fun h => ?_) <;> (try simp only [h]))
          | (refine onPick_split (fun h => ?_) (fun h => ?_) <;> (try simp only [h])))
      refine callM_rel hD rfl rfl rfl fun y rs hR => ?_
      obtain ⟨⟨u, rfl⟩, rfl⟩ := hR
      repeat' (first
          | (simp only [ints_noOwn, ↓wA, ↓wC, wB, frzBE, frzBS, Nat.reduceEqDiff, Nat.reduceAdd, Nat.reduceSub, reduceIte, reduceCtorEq, Nat.reduceBEq, Nat.reduceLT, decide_true])
          | (refine execG_split (fun h => ?_) (fun h => ?_) <;> simp only [h])
          | (refine execC_split (fun h => ?_) (fun h => ?_) <;> (try simp only [h]))
          | (refine onPick_split (fun h => ?_) (fun h => ?_) <;> (try simp only [h])))
      all_goals rfl
theorem specNotHeard_fn (xs : List App) (id : Int) (hlen : xs.length ≤ 1048576) (hx : ∀ x ∈ xs, x.ok0) : Fn prog 8 [.sl false 6 (appsD xs), .int .i64 id] (fun rs => rs = intsR (nhR xs id)) := by
  have hF := l24Find_fn xs id hlen
  have hG := l24Good_fn xs hlen hx
  rcases find_cases xs id with ⟨hn, hn'⟩ | ⟨i, x, hi, hr, _⟩
  · rw [nhR_neg hn']
    refine Fn_of' (fn := f8) (by exact func8) c8 r8 (n := 58) (by rfl) (rv := [.tmp 4, .tmp 5]) (by rfl) (by simp) ?_
    unfold m8
    repeat' (first
        | (simp only [hn, ↓wA, ↓wC, wB, frzBE, frzBS, Nat.reduceEqDiff, Nat.reduceAdd, Nat.reduceSub, reduceIte, reduceCtorEq, Nat.reduceBEq, Nat.reduceLT, decide_true])
        | (refine call_det (hF) rfl rfl ?_)
        | (refine callP_det (hF) rfl rfl ?_)
        | (refine call_det (hG) rfl rfl ?_)
        | (refine callP_det (hG) rfl rfl ?_)
        | (refine execG_split (fun h => ?_) (fun h => ?_) <;> simp only [h])
        | (refine execC_split (fun h => ?_) (fun h => ?_) <;> (try simp only [h]))
        | (refine onPick_split (fun h => ?_) (fun h => ?_) <;> (try simp only [h])))
    all_goals rfl
  · rw [nhR_at hi hr]
    rw [hi] at hF
    have hm := List.mem_of_getElem? hr
    have h0 : (0 : Int) ≤ (i : Int) := by omega
    have hn : decide ((i : Int) < 0) = false := decide_eq_false (by omega)
    cases hg : goodA xs with
    | false =>
      rw [hg] at hG
      refine Fn_of' (fn := f8) (by exact func8) c8 r8 (n := 58) (by rfl) (rv := [.tmp 4, .tmp 5]) (by rfl) (by simp) ?_
      unfold m8
      repeat' (first
          | (simp only [hn, ↓wA, ↓wC, wB, frzBE, frzBS, Nat.reduceEqDiff, Nat.reduceAdd, Nat.reduceSub, reduceIte, reduceCtorEq, Nat.reduceBEq, Nat.reduceLT, decide_true])
          | (refine call_det (hF) rfl rfl ?_)
          | (refine callP_det (hF) rfl rfl ?_)
          | (refine call_det (hG) rfl rfl ?_)
          | (refine callP_det (hG) rfl rfl ?_)
          | (refine execG_split (fun h => ?_) (fun h => ?_) <;> simp only [h])
          | (refine execC_split (fun h => ?_) (fun h => ?_) <;> (try simp only [h]))
          | (refine onPick_split (fun h => ?_) (fun h => ?_) <;> (try simp only [h])))
      all_goals rfl
    | true =>
      rw [hg] at hG
      have hal := (hx x hm).1
      refine Fn_of' (fn := f8) (by exact func8) c8 r8 (n := 58) (by rfl) (rv := [.tmp 4, .tmp 5]) (by rfl) (by simp) ?_
      unfold m8
      repeat' (first
          | (simp only [hn, ↓wA, ↓wC, wB, frzBE, frzBS, Nat.reduceEqDiff, Nat.reduceAdd, Nat.reduceSub, reduceIte, reduceCtorEq, Nat.reduceBEq, Nat.reduceLT, decide_true])
          | (refine call_det (hF) rfl rfl ?_)
          | (refine callP_det (hF) rfl rfl ?_)
          | (refine call_det (hG) rfl rfl ?_)
          | (refine callP_det (hG) rfl rfl ?_)
          | (refine execG_split (fun h => ?_) (fun h => ?_) <;> simp only [h])
          | (refine execC_split (fun h => ?_) (fun h => ?_) <;> (try simp only [h]))
          | (refine onPick_split (fun h => ?_) (fun h => ?_) <;> (try simp only [h])))
      refine exec_range x.a.length (fun k : Nat => ⟨[(0, .d (.sl false 6 (appsD xs))), (6, .own 0), (7, .d (.int .i64 i)), (8, .d (.int .i64 k))], [.val (.sl true 1 (dl iD (kept (fun n => x.h.contains n) (x.a.take k))))]⟩) (fun _ => True) (weak_of _ rfl ⟨⟨rfl, rfl⟩, ⟨rfl, rfl⟩, ⟨rfl, rfl⟩, ⟨rfl, rfl⟩, trivial⟩) trivial ?_ ?_
      · intro k hlt _ hd hk0
        obtain ⟨r, hrk⟩ := get_lt hlt
        have hH := l1Has_fn x.h r (hx x hm).2
        have hk := kept_take (p := fun n => x.h.contains n) hrk
        have hkl : (kept (fun n => x.h.contains n) (x.a.take k)).length ≤ 1048576 := by
          refine Nat.le_trans (List.length_filter_le _ _) ?_
          simp; omega
        have hap : ∀ L : List Int, (dl iD L).app (D.cons (.int .i64 r) .nil) = dl iD (L ++ [r]) := fun L => app_one (f := iD) L r
        cases hc : x.h.contains r with
        | true =>
          rw [hc] at hH hk
          simp only [if_true, List.append_nil] at hk
          repeat' (first
              | (simp only [dl_len, h0, hd, hk0, dl_nth, Int.toNat_natCast, hr, hrk, Option.map_some, onC_true, ↓fa_app3, ↓fa_app4, ↓rd_iD, ints_noOwn, apps_noOwn, ↓wA, ↓wC, wB, frzBE, frzBS, Nat.reduceEqDiff, Nat.reduceAdd, Nat.reduceSub, reduceIte, reduceCtorEq, Nat.reduceBEq, Nat.reduceLT, decide_true])
              | (refine call_det (hH) rfl rfl ?_)
              | (refine callP_det (hH) rfl rfl ?_)
              | (with_reducible refine onI_bare ?_ ?_; focus (simp only [InR]; omega))
              | (refine execG_split (fun h => ?_) (fun h => ?_) <;> simp only [h])
              | (refine execC_split (fun h => ?_) (fun h => ?_) <;> (try simp only [h]))
              | (refine onPick_split (fun h => ?_) (fun h => ?_) <;> (try simp only [h])))
          refine ⟨k + 1, ?_, by omega, by omega⟩
          rw [hk]
          exact (weak_of _ rfl ⟨⟨rfl, rfl⟩, ⟨rfl, rfl⟩, ⟨rfl, rfl⟩, ⟨rfl, rfl⟩, trivial⟩)
        | false =>
          rw [hc] at hH hk
          simp only [Bool.false_eq_true, if_false] at hk
          repeat' (first
              | (simp only [dl_len, h0, hd, hk0, dl_nth, Int.toNat_natCast, hr, hrk, Option.map_some, onC_true, ↓fa_app3, ↓fa_app4, ↓rd_iD, ints_noOwn, apps_noOwn, hap, ↓wA, ↓wC, wB, frzBE, frzBS, Nat.reduceEqDiff, Nat.reduceAdd, Nat.reduceSub, reduceIte, reduceCtorEq, Nat.reduceBEq, Nat.reduceLT, decide_true])
              | (refine call_det (hH) rfl rfl ?_)
              | (refine callP_det (hH) rfl rfl ?_)
              | (with_reducible refine onC_i ?_ ?_; focus omega)
              | (with_reducible refine onC_i ?_ ?_; focus (simp; done))
              | (with_reducible refine onI_bare ?_ ?_; focus (simp only [InR]; omega))
              | (refine execG_split (fun h => ?_) (fun h => ?_) <;> simp only [h])
              | (refine execC_split (fun h => ?_) (fun h => ?_) <;> (try simp only [h]))
              | (refine onPick_split (fun h => ?_) (fun h => ?_) <;> (try simp only [h])))
          refine ⟨k + 1, ?_, by omega, by omega⟩
          rw [hk]
          exact (weak_of _ rfl ⟨⟨rfl, rfl⟩, ⟨rfl, rfl⟩, ⟨rfl, rfl⟩, ⟨rfl, rfl⟩, trivial⟩)
      · intro _ hd
        rw [List.take_length]
        repeat' (first
            | (simp only [dl_len, h0, hd, dl_nth, Int.toNat_natCast, hr, Option.map_some, onC_true, ↓fa_app3, ints_noOwn, apps_noOwn, ↓wA, ↓wC, wB, frzBE, frzBS, Nat.reduceEqDiff, Nat.reduceAdd, Nat.reduceSub, reduceIte, reduceCtorEq, Nat.reduceBEq, Nat.reduceLT, decide_true])
            | (refine execG_split (fun h => ?_) (fun h => ?_) <;> simp only [h])
            | (refine execC_split (fun h => ?_) (fun h => ?_) <;> (try simp only [h]))
            | (refine onPick_split (fun h => ?_) (fun h => ?_) <;> (try simp only [h])))
        all_goals rfl
end Go.Pe.Try
