/- Copies of appeals and a decided appeal as the reference has them, walked. -/
import Derived.Test.YtpephpnbhlfdaaaAp17
set_option maxRecDepth 100000
set_option maxHeartbeats 4000000
set_option linter.all false
namespace Go.Pe.Try
open Go.Proofs.Try
theorem l1Own_fn (v : List Int) (hlen : v.length ≤ 1048576) : Fn prog 37 [.sl false 1 (dl iD v)] (fun rs => rs = [.sl true 1 (dl iD v)]) := by
  refine Fn_of' (fn := f37) (by exact func37) c37 r37 (n := 6) (by rfl) (rv := [.tmp 2]) (by rfl) (by simp) ?_
  unfold m37
  simp only [dl_len, ↓wA, ↓wC, wB, frzBE, frzBS, Nat.reduceEqDiff, Nat.reduceAdd, Nat.reduceSub, reduceIte, reduceCtorEq, Nat.reduceBEq, Nat.reduceLT, decide_true]
  refine onC_i ⟨by omega, by omega⟩ ?_
  simp only [↓wA, ↓wC, wB, frzBE, frzBS, Nat.reduceEqDiff, Nat.reduceAdd, Nat.reduceSub, reduceIte, reduceCtorEq, Nat.reduceBEq, Nat.reduceLT, decide_true]
theorem rd_p {o : List Ob} {K : SV → Prop} {x : App} {da dh : D} (h1 : da.noOwn = true) (h2 : dh.noOwn = true) (h3 : da.size = 1) (h4 : dh.size = 1) : stepRd o (some 6) (x.p da dh) K = K (.d (x.p da dh)) := by simp [App.p, stepRd, D.size, D.noOwn, h1, h2, h3, h4]
theorem isV_p {x : App} {da dh : D} : (x.p da dh).isV = true := rfl
theorem size_p {x : App} {da dh : D} (h3 : da.size = 1) (h4 : dh.size = 1) : (x.p da dh).size = 6 := by simp [App.p, D.size, h3, h4]
theorem noOwn_p {x : App} {da dh : D} (h1 : da.noOwn = true) (h2 : dh.noOwn = true) : (x.p da dh).noOwn = true := by simp [App.p, D.noOwn, h1, h2]
theorem fa_p {x : App} {da dh : D} {K : SV → Prop} : stepFa 3 3 (.d (.ptr (x.p da dh))) K = K (.d (.ptr da)) := by simp [App.p, stepFa, D.pre, D.nth, D.size]
theorem l24Own_fn (xs : List App) (hlen : xs.length ≤ 1048576) (hx : ∀ x ∈ xs, x.ok0) : Fn prog 21 [.sl false 6 (appsD xs)] (fun rs => rs = [.sl true 6 (appsD xs)]) := by
  refine Fn_ofg (ps := [[1, 1, 0, 1, 0, 0, 1, 0, 0, 1, 1, 1], [1, 1, 0, 1, 0, 0, 1, 0, 0, 1, 1, 1]]) (fn := f21) (by exact func21) c21 r21 (n := 30) (by rfl) (rv := [.tmp 2]) (by rfl) (by simp) ?_
  unfold m21
  simp only [ghAll, ghAt]
  simp only [↓wA, ↓wC, wB, frzBE, frzBS, Nat.reduceEqDiff, Nat.reduceAdd, Nat.reduceSub, reduceIte, reduceCtorEq, Nat.reduceBEq, Nat.reduceLT, decide_true]
  refine exec_range xs.length (fun i : Nat => ⟨[(0, .d (.sl false 6 (appsD xs))), (3, .own 0), (4, .d (.int .i64 i))], [.val (.sl true 6 (appsD (xs.take i)))]⟩) (fun _ => True) (weak_of _ rfl ⟨⟨rfl, rfl⟩, ⟨rfl, rfl⟩, ⟨rfl, rfl⟩, trivial⟩) trivial ?_ ?_
  · intro i hlt _ hd h0
    obtain ⟨x, hr⟩ := get_lt hlt
    have hxo := hx x (List.mem_of_getElem? hr)
    have h1 := l1Own_fn x.a hxo.1
    have h2 := l1Own_fn x.h hxo.2
    have hl : (xs.take i).length = i := by simp; omega
    repeat' (first
        | (simp only [dl_len, hd, h0, dl_nth, Int.toNat_natCast, hr, rd_p, size_p, isV_p, noOwn_p, Option.map_some, onC_true, App.dp, ints_noOwn, doff_p3, doff_p4, dget_p3, dget_p4, dset_p3, dset_p4, ↓wA, ↓wC, wB, frzBE, frzBS, Nat.reduceEqDiff, Nat.reduceAdd, Nat.reduceSub, reduceIte, reduceCtorEq, Nat.reduceBEq, Nat.reduceLT, decide_true])
        | (refine call_det h1 rfl rfl ?_)
        | (refine call_det h2 rfl rfl ?_)
        | (refine onI_bare (by simp only [InR]; omega) ?_)
        | (refine execG_split (fun h => ?_) (fun h => ?_) <;> simp only [h])
        | (refine execC_split (fun h => ?_) (fun h => ?_) <;> (try simp only [h]))
        | (refine onPick_split (fun h => ?_) (fun h => ?_) <;> (try simp only [h])))
    refine exec_gh1 (freeze 1 none [3] rfl rfl rfl) ?_
    simp only [obSet, dset_p3, D.unown, ints_unown, ↓wA, ↓wC, wB, frzBE, frzBS, Nat.reduceEqDiff, Nat.reduceAdd, Nat.reduceSub, reduceIte, reduceCtorEq, Nat.reduceBEq, Nat.reduceLT, decide_true]
    refine exec_gh1 (freeze 1 none [4] rfl rfl rfl) ?_
    simp only [obSet, dset_p4, D.unown, ints_unown, ↓wA, ↓wC, wB, frzBE, frzBS, Nat.reduceEqDiff, Nat.reduceAdd, Nat.reduceSub, reduceIte, reduceCtorEq, Nat.reduceBEq, Nat.reduceLT, decide_true]
    repeat' (first
        | (simp only [dl_len, hd, h0, onC_true, rd_p, size_p, isV_p, noOwn_p, ints_noOwn, ↓wA, ↓wC, wB, frzBE, frzBS, Nat.reduceEqDiff, Nat.reduceAdd, Nat.reduceSub, reduceIte, reduceCtorEq, Nat.reduceBEq, Nat.reduceLT, decide_true])
        | (refine onI_bare (by simp only [InR]; omega) ?_)
        | (refine execG_split (fun h => ?_) (fun h => ?_) <;> simp only [h])
        | (refine execC_split (fun h => ?_) (fun h => ?_) <;> (try simp only [h]))
        | (refine onPick_split (fun h => ?_) (fun h => ?_) <;> (try simp only [h])))
    refine onC_i (by simp) ?_
    refine onC_i (by rw [hl]; omega) ?_
    refine onI_bare (by simp only [InR]; omega) ?_
    have happ : (appsD (xs.take i)).app ((x.p (.sl false 1 (dl iD x.a)) (.sl false 1 (dl iD x.h))).cons .nil) = appsD (xs.take (i + 1)) := (app_one (f := App.d') (xs.take i) x).trans (by rw [take_snoc hr])
    rw [happ]
    exact ⟨i + 1, (weak_of _ rfl ⟨⟨rfl, rfl⟩, ⟨rfl, rfl⟩, ⟨rfl, rfl⟩, trivial⟩), by omega, by omega⟩
  · intro _ hd
    simp only [dl_len, hd, ↓wA, ↓wC, wB, frzBE, frzBS, Nat.reduceEqDiff, Nat.reduceAdd, Nat.reduceSub, reduceIte, reduceCtorEq, Nat.reduceBEq, Nat.reduceLT, decide_true]
    rw [List.take_length]
end Go.Pe.Try
