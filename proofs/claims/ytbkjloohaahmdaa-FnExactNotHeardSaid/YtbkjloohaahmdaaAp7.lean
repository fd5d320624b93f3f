/- Valid appeals, walked. -/
import Derived.Test.YtbkjloohaahmdaaAp6
set_option maxRecDepth 100000
set_option maxHeartbeats 4000000
set_option linter.all false
namespace Go.Pe.Try
open Go.Proofs.Try
def okA (x : App) : Bool := within x.i 1 999 && within x.q 1 999 && within x.d 0 20000 && within x.s 0 4 && !decide (6 < (x.a.length : Int)) && rises x.a && rises x.h && x.a.all (fun n => within n 1 50) && x.h.all (fun n => x.a.contains n) && (decide ((x.h.length : Int) < (x.a.length : Int)) == (decide (x.s = 0) || decide (x.s = 4)))
theorem any_not {α : Type} (p : α → Bool) (xs : List α) : xs.any (fun x => !p x) = !xs.all p := by
  induction xs with
  | nil => rfl
  | cons a v ih => simp [List.any_cons, List.all_cons, ih]
theorem isAppeal_fn (x : App) (hx : x.ok0) : Fn prog 59 [x.d'] (fun rs => rs = [.bool (okA x)]) := by
  have ha := hx.1
  have hh := hx.2
  have h1 := containsFuncI_fn (fun n => !within n 1 50) 114 .nil x.a rfl en114 ha (fun n _ => clo1_fn n)
  have h2 := containsFuncI_fn (fun n => !x.a.contains n) 115 (.cons (.ptr x.d') .nil) x.h rfl en115 hh (fun n _ => clo2_fn n x ha)
  rw [any_not] at h1 h2
  unfold okA
  generalize x.a.all (fun n => within n 1 50) = A at h1 ⊢
  generalize x.h.all (fun n => x.a.contains n) = H at h2 ⊢
  simp only [App.d'] at h2
  refine Fn_ofg (ps := [[1, 0, 0]]) (fn := f59) (by exact func59) c59 r59 (n := 66) (by rfl) (rv := [.tmp 2]) (by rfl) (by simp) ?_
  unfold m59
  simp only [ghAll, ghAt]
  simp only [App.d', ↓wA, ↓wC, wB, frzBE, frzBS, Nat.reduceEqDiff, Nat.reduceAdd, Nat.reduceSub, reduceIte, reduceCtorEq, Nat.reduceBEq, Nat.reduceLT, decide_true]
  refine exec_gh1 (frzB 0 rfl) ?_
  simp only [ints_noOwn, ints_unown, ↓wA, ↓wC, wB, frzBE, frzBS, Nat.reduceEqDiff, Nat.reduceAdd, Nat.reduceSub, reduceIte, reduceCtorEq, Nat.reduceBEq, Nat.reduceLT, decide_true]
  repeat' (first
      | (simp only [ints_noOwn, ints_unown, onC_true, dl_len, ↓wA, ↓wC, wB, frzBE, frzBS, Nat.reduceEqDiff, Nat.reduceAdd, Nat.reduceSub, reduceIte, reduceCtorEq, Nat.reduceBEq, Nat.reduceLT, decide_true])
      | (refine call_det (within_fn _ _ _) rfl rfl ?_)
      | (refine callP_det (within_fn _ _ _) rfl rfl ?_)
      | (refine call_det (isDay_fn _) rfl rfl ?_)
      | (refine callP_det (isDay_fn _) rfl rfl ?_)
      | (refine call_det (areRising_fn _ ha) rfl rfl ?_)
      | (refine callP_det (areRising_fn _ ha) rfl rfl ?_)
      | (refine call_det (areRising_fn _ hh) rfl rfl ?_)
      | (refine callP_det (areRising_fn _ hh) rfl rfl ?_)
      | (refine call_det (h1) rfl rfl ?_)
      | (refine callP_det (h1) rfl rfl ?_)
      | (refine call_det (h2) rfl rfl ?_)
      | (refine callP_det (h2) rfl rfl ?_)
      | (refine execG_split (fun h => ?_) (fun h => ?_) <;> simp only [h])
      | (refine execC_split (fun h => ?_) (fun h => ?_) <;> (try simp only [h]))
      | (refine onPick_split (fun h => ?_) (fun h => ?_) <;> (try simp only [h])))
  all_goals (clear h1 h2; simp_all)
theorem l1Rising_fn (v : List Int) (a b : Int) (hlen : v.length ≤ 1048576) : Fn prog 135 [.sl false 1 (dl iD v), .int .i64 a, .int .i64 b] (fun rs => rs = [.bool (v.all (fun n => within n a b) && rises v)]) := by
  refine Fn_of' (fn := f135) (by exact func135) c135 r135 (n := 38) (by rfl) (rv := [.tmp 6]) (by rfl) (by simp) ?_
  unfold m135
  simp only [↓wA, ↓wC, wB, frzBE, frzBS, Nat.reduceEqDiff, Nat.reduceAdd, Nat.reduceSub, reduceIte, reduceCtorEq, Nat.reduceBEq, Nat.reduceLT, decide_true]
  refine exec_range v.length (fun i : Nat => ⟨[(0, .d (.sl false 1 (dl iD v))), (1, .d (.int .i64 a)), (2, .d (.int .i64 b)), (7, .d (.int .i64 i))], []⟩) (fun i => (∀ j r, j < i → v[j]? = some r → within r a b = true) ∧ ∀ j, j + 1 < i → v.getD j 0 < v.getD (j + 1) 0) (weak_of _ rfl ⟨⟨rfl, rfl⟩, ⟨rfl, rfl⟩, ⟨rfl, rfl⟩, ⟨rfl, rfl⟩, trivial⟩) ⟨fun j r hj => by omega, fun j hj => by omega⟩ ?_ ?_
  · rintro i hlt ⟨hin, hri⟩ hd h0
    obtain ⟨r, hr⟩ := get_lt hlt
    have gr : v.getD i 0 = r := by simp [List.getD, hr]
    have hc := l1In_fn r a b
    cases hw : within r a b with
    | false =>
      have hres : (v.all (fun n => within n a b) && rises v) = false := by
        have : v.all (fun n => within n a b) = false := List.all_eq_false.2 ⟨r, List.mem_of_getElem? hr, by simp [hw]⟩
        rw [this]; rfl
      rw [hw] at hc
      repeat' (first
          | (simp only [dl_len, dl_nth, hd, h0, Int.toNat_natCast, hr, Option.map_some, ↓rd_iD, onC_true, ↓wA, ↓wC, wB, frzBE, frzBS, Nat.reduceEqDiff, Nat.reduceAdd, Nat.reduceSub, reduceIte, reduceCtorEq, Nat.reduceBEq, Nat.reduceLT, decide_true])
          | (refine call_det (hc) rfl rfl ?_)
          | (refine callP_det (hc) rfl rfl ?_)
          | (refine execG_split (fun h => ?_) (fun h => ?_) <;> simp only [h])
          | (refine execC_split (fun h => ?_) (fun h => ?_) <;> (try simp only [h]))
          | (refine onPick_split (fun h => ?_) (fun h => ?_) <;> (try simp only [h])))
      all_goals rw [hres]
    | true =>
      rw [hw] at hc
      have hin' : ∀ j s, j < i + 1 → v[j]? = some s → within s a b = true := fun j s hj hs => by
        by_cases e : j = i
        · subst e; rw [hr] at hs; injection hs with hs; rw [← hs]; exact hw
        · exact hin j s (by omega) hs
      cases i with
      | zero =>
        have hg : decide ((0 : Int) < ((0 : Nat) : Int)) = false := by decide
        repeat' (first
            | (simp only [dl_len, dl_nth, hd, h0, Int.toNat_natCast, hr, Option.map_some, ↓rd_iD, onC_true, hg, ↓wA, ↓wC, wB, frzBE, frzBS, Nat.reduceEqDiff, Nat.reduceAdd, Nat.reduceSub, reduceIte, reduceCtorEq, Nat.reduceBEq, Nat.reduceLT, decide_true])
            | (refine call_det (hc) rfl rfl ?_)
            | (refine callP_det (hc) rfl rfl ?_)
            | (refine onI_bare (by simp only [InR]; omega) ?_)
            | (refine execG_split (fun h => ?_) (fun h => ?_) <;> simp only [h])
            | (refine execC_split (fun h => ?_) (fun h => ?_) <;> (try simp only [h]))
            | (refine onPick_split (fun h => ?_) (fun h => ?_) <;> (try simp only [h])))
        all_goals exact next_range (weak_of _ rfl ⟨⟨rfl, rfl⟩, ⟨rfl, rfl⟩, ⟨rfl, rfl⟩, ⟨rfl, rfl⟩, trivial⟩) hlt ⟨hin', fun j hj => by omega⟩
      | succ k =>
        obtain ⟨y, hy⟩ := get_lt (show k < v.length by omega)
        have gy : v.getD k 0 = y := by simp [List.getD, hy]
        have hg : decide ((0 : Int) < ((k + 1 : Nat) : Int)) = true := decide_eq_true (by omega)
        have h1 : (0 : Int) ≤ ((k + 1 : Nat) : Int) - 1 := by omega
        have hy' : v[(((k + 1 : Nat) : Int) - 1).toNat]? = some y := by rw [show (((k + 1 : Nat) : Int) - 1).toNat = k by omega]; exact hy
        by_cases hl : y < r
        · have hq : decide (r ≤ y) = false := decide_eq_false (by omega)
          repeat' (first
              | (simp only [dl_len, dl_nth, hd, h0, h1, Int.toNat_natCast, hr, hy', Option.map_some, ↓rd_iD, onC_true, hg, hq, ↓wA, ↓wC, wB, frzBE, frzBS, Nat.reduceEqDiff, Nat.reduceAdd, Nat.reduceSub, reduceIte, reduceCtorEq, Nat.reduceBEq, Nat.reduceLT, decide_true])
              | (refine call_det (hc) rfl rfl ?_)
              | (refine callP_det (hc) rfl rfl ?_)
              | (refine onI_bare (by simp only [InR]; omega) ?_)
              | (refine execG_split (fun h => ?_) (fun h => ?_) <;> simp only [h])
              | (refine execC_split (fun h => ?_) (fun h => ?_) <;> (try simp only [h]))
              | (refine onPick_split (fun h => ?_) (fun h => ?_) <;> (try simp only [h])))
          all_goals refine next_range (weak_of _ rfl ⟨⟨rfl, rfl⟩, ⟨rfl, rfl⟩, ⟨rfl, rfl⟩, ⟨rfl, rfl⟩, trivial⟩) hlt ⟨hin', fun j hj => ?_⟩
          by_cases e : j = k
          · subst e; rw [gy, gr]; exact hl
          · exact hri j (by omega)
        · have hq : decide (r ≤ y) = true := decide_eq_true (by omega)
          have hres : (v.all (fun n => within n a b) && rises v) = false := by
            have : rises v = false := by
              cases h : rises v with
              | false => rfl
              | true =>
                have := (rises_iff v).1 h k hlt
                rw [gy, gr] at this; omega
            rw [this, Bool.and_false]
          repeat' (first
              | (simp only [dl_len, dl_nth, hd, h0, h1, Int.toNat_natCast, hr, hy', Option.map_some, ↓rd_iD, onC_true, hg, hq, ↓wA, ↓wC, wB, frzBE, frzBS, Nat.reduceEqDiff, Nat.reduceAdd, Nat.reduceSub, reduceIte, reduceCtorEq, Nat.reduceBEq, Nat.reduceLT, decide_true])
              | (refine call_det (hc) rfl rfl ?_)
              | (refine callP_det (hc) rfl rfl ?_)
              | (refine onI_bare (by simp only [InR]; omega) ?_)
              | (refine execG_split (fun h => ?_) (fun h => ?_) <;> simp only [h])
              | (refine execC_split (fun h => ?_) (fun h => ?_) <;> (try simp only [h]))
              | (refine onPick_split (fun h => ?_) (fun h => ?_) <;> (try simp only [h])))
          all_goals rw [hres]
  · rintro ⟨hin, hri⟩ hd
    have hres : (v.all (fun n => within n a b) && rises v) = true := by
      rw [Bool.and_eq_true]
      refine ⟨List.all_eq_true.2 fun n hn => ?_, (rises_iff v).2 fun j hj => hri j hj⟩
      obtain ⟨j, hj⟩ := List.getElem?_of_mem hn
      exact hin j n (lt_of_get hj) hj
    simp only [dl_len, hd, ↓wA, ↓wC, wB, frzBE, frzBS, Nat.reduceEqDiff, Nat.reduceAdd, Nat.reduceSub, reduceIte, reduceCtorEq, Nat.reduceBEq, Nat.reduceLT, decide_true]
    rw [hres]
end Go.Pe.Try
