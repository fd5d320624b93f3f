/- Valid lists of appeals, walked. -/
import Derived.Test.YtbkjloohaahmdaaAp8
set_option maxRecDepth 100000
set_option maxHeartbeats 4000000
set_option linter.all false
namespace Go.Pe.Try
open Go.Proofs.Try
def pend (x : App) : Bool := decide (x.s = 0) || decide (x.s = 1)
def ltA (xs : List App) (i : Nat) (x : App) : Bool := match i with
  | 0 => true
  | j + 1 => match xs[j]? with
    | none => true
    | some y => decide (y.i < x.i)
def sameA (x y : App) : Bool := decide (y.q = x.q) && pend y
def stepA (xs : List App) (i : Nat) : Bool := match xs[i]? with
  | none => true
  | some x => okA x && ltA xs i x && !(pend x && (xs.take i).any (sameA x))
def goodA (xs : List App) : Bool := decide ((xs.length : Int) ≤ 10) && (List.range xs.length).all (stepA xs)
theorem stepA_at {xs : List App} {i : Nat} {x : App} (hr : xs[i]? = some x) : stepA xs i = (okA x && ltA xs i x && !(pend x && (xs.take i).any (sameA x))) := by
  simp only [stepA, hr]
theorem goodA_bad {xs : List App} {i : Nat} (hi : i < xs.length) (h : stepA xs i = false) : goodA xs = false := by
  have : (List.range xs.length).all (stepA xs) = false := List.all_eq_false.2 ⟨i, List.mem_range.2 hi, by rw [h]; simp⟩
  rw [goodA, this, Bool.and_false]
theorem goodA_all {xs : List App} (h : ∀ j, j < xs.length → stepA xs j = true) : goodA xs = decide ((xs.length : Int) ≤ 10) := by
  have : (List.range xs.length).all (stepA xs) = true := List.all_eq_true.2 fun j hj => h j (List.mem_range.1 hj)
  rw [goodA, this, Bool.and_true]
theorem fa_app0 {x : App} {K : SV → Prop} : stepFa 0 0 (.d (.ptr x.d')) K = K (.d (.ptr (.int .i64 x.i))) := by simp [App.d', stepFa, D.pre, D.nth, D.size]
theorem fa_app1 {x : App} {K : SV → Prop} : stepFa 1 1 (.d (.ptr x.d')) K = K (.d (.ptr (.int .i64 x.q))) := by simp [App.d', stepFa, D.pre, D.nth, D.size]
theorem fa_app2 {x : App} {K : SV → Prop} : stepFa 2 2 (.d (.ptr x.d')) K = K (.d (.ptr (.int .i64 x.d))) := by simp [App.d', stepFa, D.pre, D.nth, D.size]
theorem fa_app3 {x : App} {K : SV → Prop} : stepFa 3 3 (.d (.ptr x.d')) K = K (.d (.ptr (.sl false 1 (dl iD x.a)))) := by simp [App.d', stepFa, D.pre, D.nth, D.size]
theorem fa_app4 {x : App} {K : SV → Prop} : stepFa 4 4 (.d (.ptr x.d')) K = K (.d (.ptr (.sl false 1 (dl iD x.h)))) := by simp [App.d', stepFa, D.pre, D.nth, D.size]
theorem fa_app5 {x : App} {K : SV → Prop} : stepFa 5 5 (.d (.ptr x.d')) K = K (.d (.ptr (.int .i64 x.s))) := by simp [App.d', stepFa, D.pre, D.nth, D.size]
theorem isPending_fn (x : App) : Fn prog 105 [x.d'] (fun rs => rs = [.bool (pend x)]) := by
  refine Fn_of' (fn := f105) (by exact func105) c105 r105 (n := 11) (by rfl) (rv := [.tmp 2]) (by rfl) (by simp) ?_
  unfold m105
  simp only [App.d']
  repeat' (first
      | (simp only [ints_noOwn, onC_true, ↓wA, ↓wC, wB, frzBE, frzBS, Nat.reduceEqDiff, Nat.reduceAdd, Nat.reduceSub, reduceIte, reduceCtorEq, Nat.reduceBEq, Nat.reduceLT, decide_true])
      | (refine execG_split (fun h => ?_) (fun h => ?_) <;> simp only [h])
      | (refine execC_split (fun h => ?_) (fun h => ?_) <;> (try simp only [h]))
      | (refine onPick_split (fun h => ?_) (fun h => ?_) <;> (try simp only [h])))
  all_goals simp_all [pend]
theorem areClo_fn (x y : App) : Fn prog 107 [y.d', .ptr x.d'] (fun rs => rs = [.bool (sameA x y)]) := by
  have hp := isPending_fn y
  simp only [App.d'] at hp
  refine Fn_of' (fn := f107) (by exact func107) c107 r107 (n := 13) (by rfl) (rv := [.tmp 3]) (by rfl) (by simp) ?_
  unfold m107
  simp only [App.d']
  repeat' (first
      | (simp only [ints_noOwn, ints_unown, onC_true, ↓wA, ↓wC, wB, frzBE, frzBS, Nat.reduceEqDiff, Nat.reduceAdd, Nat.reduceSub, reduceIte, reduceCtorEq, Nat.reduceBEq, Nat.reduceLT, decide_true])
      | (refine call_det (hp) rfl rfl ?_)
      | (refine callP_det (hp) rfl rfl ?_)
      | (refine execG_split (fun h => ?_) (fun h => ?_) <;> simp only [h])
      | (refine execC_split (fun h => ?_) (fun h => ?_) <;> (try simp only [h]))
      | (refine onPick_split (fun h => ?_) (fun h => ?_) <;> (try simp only [h])))
  all_goals simp_all [sameA]
theorem apps_sub (xs : List App) (b : Nat) : (appsD xs).sub 0 b = appsD (xs.take b) := by
  rw [appsD, dl_sub]; rfl
theorem areAppeals_fn (xs : List App) (hlen : xs.length ≤ 1048576) (hx : ∀ x ∈ xs, x.ok0) : Fn prog 51 [.sl false 6 (appsD xs)] (fun rs => rs = [.bool (goodA xs)]) := by
  refine Fn_ofg (ps := [[1, 0, 1, 0, 0, 1, 1, 0, 0, 1, 0, 0]]) (fn := f51) (by exact func51) c51 r51 (n := 43) (by rfl) (rv := [.tmp 2]) (by rfl) (by simp) ?_
  unfold m51
  simp only [ghAll, ghAt]
  simp only [dl_len, ↓wA, ↓wC, wB, frzBE, frzBS, Nat.reduceEqDiff, Nat.reduceAdd, Nat.reduceSub, reduceIte, reduceCtorEq, Nat.reduceBEq, Nat.reduceLT, decide_true]
  refine exec_range xs.length (fun i : Nat => ⟨[(0, .d (.sl false 6 (appsD xs))), (5, .d (.sl false 6 (appsD xs))), (6, .d (.int .i64 xs.length)), (7, .d (.int .i64 i))], []⟩) (fun i => ∀ j, j < i → stepA xs j = true) (weak_of _ rfl ⟨⟨rfl, rfl⟩, ⟨rfl, rfl⟩, ⟨rfl, rfl⟩, ⟨rfl, rfl⟩, trivial⟩) (fun j hj => by omega) ?_ ?_
  · intro i hlt hinv hd h0
    obtain ⟨x, hr⟩ := get_lt hlt
    have hxo := hx x (List.mem_of_getElem? hr)
    have hst := stepA_at hr
    have hok := isAppeal_fn x hxo
    have hpe := isPending_fn x
    have hco := containsFuncA_fn (sameA x) 107 (.cons (.ptr x.d') .nil) (xs.take i) rfl en107 (by simp; omega) (fun y _ => areClo_fn x y)
    have hbi : (0 : Int) ≤ (i : Int) ∧ (i : Int) ≤ (xs.length : Int) := ⟨h0, by omega⟩
    simp only [hd, h0, dl_nth, Int.toNat_natCast, hr, Option.map_some, onC_true, ↓rd_app, oa_size, oa_isV, App.noOwn, App.unown, ↓wA, ↓wC, wB, frzBE, frzBS, Nat.reduceEqDiff, Nat.reduceAdd, Nat.reduceSub, reduceIte, reduceCtorEq, Nat.reduceBEq, Nat.reduceLT, decide_true]
    refine exec_gh1 (frzB 0 rfl) ?_
    simp only [App.unown]
    have hgood : ∀ b, b = stepA xs i → b = false → goodA xs = false := fun b e h => goodA_bad hlt (by rw [← e]; exact h)
    have hnext : stepA xs i = true → ∀ j, j < i + 1 → stepA xs j = true := fun h => all_upto hinv h
    have hxa : ∀ (y : App), y.d' = D.st (.cons (.int .i64 y.i) (.cons (.int .i64 y.q) (.cons (.int .i64 y.d) (.cons (.sl false 1 (dl iD y.a)) (.cons (.sl false 1 (dl iD y.h)) (.cons (.int .i64 y.s) .nil)))))) := fun y => rfl
    cases i with
    | zero =>
      have hg : decide ((0 : Int) < ((0 : Nat) : Int)) = false := by decide
      have hl : ltA xs 0 x = true := rfl
      repeat' (first
          | (simp only [dl_len, dl_nth, App.noOwn, App.unown, apps_sub, onC_true, hg, ↓rd_app, ↓wA, ↓wC, wB, frzBE, frzBS, Nat.reduceEqDiff, Nat.reduceAdd, Nat.reduceSub, reduceIte, reduceCtorEq, Nat.reduceBEq, Nat.reduceLT, decide_true])
          | (refine call_det (hok) rfl rfl ?_)
          | (refine callP_det (hok) rfl rfl ?_)
          | (refine call_det (hpe) rfl rfl ?_)
          | (refine callP_det (hpe) rfl rfl ?_)
          | (refine call_det (hco) rfl rfl ?_)
          | (refine callP_det (hco) rfl rfl ?_)
          | (refine onC_i hbi ?_)
          | (refine onI_bare (by simp only [InR]; omega) ?_)
          | (refine execG_split (fun h => ?_) (fun h => ?_) <;> simp only [h])
          | (refine execC_split (fun h => ?_) (fun h => ?_) <;> (try simp only [h]))
          | (refine onPick_split (fun h => ?_) (fun h => ?_) <;> (try simp only [h])))
      all_goals first
        | exact next_range (weak_of _ rfl ⟨⟨rfl, rfl⟩, ⟨rfl, rfl⟩, ⟨rfl, rfl⟩, ⟨rfl, rfl⟩, trivial⟩) hlt (hnext (by clear hok hpe hco; simp_all <;> (intros; omega)))
        | (rw [goodA_bad hlt (by clear hok hpe hco; simp_all <;> (intros; omega))])
    | succ k =>
      obtain ⟨y, hy⟩ := get_lt (show k < xs.length by omega)
      have hg : decide ((0 : Int) < ((k + 1 : Nat) : Int)) = true := decide_eq_true (by omega)
      have h1 : (0 : Int) ≤ ((k + 1 : Nat) : Int) - 1 := by omega
      have hy' : xs[(((k + 1 : Nat) : Int) - 1).toNat]? = some y := by rw [show (((k + 1 : Nat) : Int) - 1).toNat = k by omega]; exact hy
      have hl : ltA xs (k + 1) x = decide (y.i < x.i) := by simp only [ltA, hy]
      have hq : decide (x.i ≤ y.i) = !decide (y.i < x.i) := by
        by_cases h : y.i < x.i
        · rw [decide_eq_true h, decide_eq_false (by omega)]; rfl
        · rw [decide_eq_false h, decide_eq_true (by omega)]; rfl
      repeat' (first
          | (simp only [dl_len, dl_nth, App.noOwn, App.unown, apps_sub, onC_true, hg, h1, hy', Option.map_some, ↓fa_app0, ↓rd_app, ↓wA, ↓wC, wB, frzBE, frzBS, Nat.reduceEqDiff, Nat.reduceAdd, Nat.reduceSub, reduceIte, reduceCtorEq, Nat.reduceBEq, Nat.reduceLT, decide_true])
          | (refine call_det (hok) rfl rfl ?_)
          | (refine callP_det (hok) rfl rfl ?_)
          | (refine call_det (hpe) rfl rfl ?_)
          | (refine callP_det (hpe) rfl rfl ?_)
          | (refine call_det (hco) rfl rfl ?_)
          | (refine callP_det (hco) rfl rfl ?_)
          | (refine onC_i hbi ?_)
          | (refine onI_bare (by simp only [InR]; omega) ?_)
          | (refine execG_split (fun h => ?_) (fun h => ?_) <;> simp only [h])
          | (refine execC_split (fun h => ?_) (fun h => ?_) <;> (try simp only [h]))
          | (refine onPick_split (fun h => ?_) (fun h => ?_) <;> (try simp only [h])))
      all_goals first
        | exact next_range (weak_of _ rfl ⟨⟨rfl, rfl⟩, ⟨rfl, rfl⟩, ⟨rfl, rfl⟩, ⟨rfl, rfl⟩, trivial⟩) hlt (hnext (by clear hok hpe hco; simp_all <;> (intros; omega)))
        | (rw [goodA_bad hlt (by clear hok hpe hco; simp_all <;> (intros; omega))])
  · intro hinv hd
    simp only [hd, dl_len, ↓wA, ↓wC, wB, frzBE, frzBS, Nat.reduceEqDiff, Nat.reduceAdd, Nat.reduceSub, reduceIte, reduceCtorEq, Nat.reduceBEq, Nat.reduceLT, decide_true]
    rw [goodA_all hinv]
end Go.Pe.Try
