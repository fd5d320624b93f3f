/- Marks on appeals, read again; copies of one's own, walked. -/
import Derived.Test.YtbkjloohaahmdaaAp14
set_option maxRecDepth 100000
set_option maxHeartbeats 4000000
set_option linter.all false
namespace Go.Pe.Try
open Go.Proofs.Try
theorem markL_get : ∀ (xs : List App) (k : Int) (i : Nat) (x : App), xs[i]? = some x → (markL k xs)[i]? = some (mA (k + sumL (xs.take i)) x)
  | [], _, i, x, h => by simp at h
  | y :: ys, k, 0, x, h => by
    simp only [List.getElem?_cons_zero, Option.some.injEq] at h
    subst h
    simp [markL, sumL]
  | y :: ys, k, i + 1, x, h => by
    simp only [List.getElem?_cons_succ] at h
    simp only [markL, List.getElem?_cons_succ, List.take_succ_cons, sumL]
    rw [markL_get ys _ i x h, Int.add_assoc]
theorem mA_i {K : Int} {x : App} : (mA K x).i = K := rfl
theorem mA_q {K : Int} {x : App} : (mA K x).q = K + 1 := rfl
theorem mA_d {K : Int} {x : App} : (mA K x).d = K + 1 + 1 := by simp only [mA]; omega
theorem mA_a {K : Int} {x : App} : (mA K x).a = ups x.a.length (K + 1 + 1 + 1) := by
  have : K + 1 + 1 + 1 = K + 3 := by omega
  rw [this]; rfl
theorem mA_h {K : Int} {x : App} : (mA K x).h = ups x.h.length (K + 1 + 1 + 1 + x.a.length) := by
  have : K + 1 + 1 + 1 = K + 3 := by omega
  rw [this]; rfl
theorem mA_s {K : Int} {x : App} : (mA K x).s = K + 1 + 1 + 1 + x.a.length + x.h.length := by
  have : K + 1 + 1 + 1 = K + 3 := by omega
  rw [this]; rfl
theorem App.o_unown (x : App) : x.o.unown = x.d' := by simp [App.o, App.p, App.d', D.unown, ints_unown]
theorem App.o_own (x : App) : x.o.allOwn = true := by simp [App.o, App.p, D.allOwn, dl_allOwn iD_allOwn]
theorem App.o_noOwn (x : App) : x.o.noOwn = false := by simp [App.o, App.p, D.noOwn]
theorem App.o_isV (x : App) : x.o.isV = true := rfl
theorem App.o_size (x : App) : x.o.size = 6 := rfl
theorem dlo_unown : ∀ xs : List App, (dl App.o xs).unown = appsD xs
  | [] => rfl
  | x :: xs => by
    have := dlo_unown xs
    simp only [appsD, dl, List.map_cons, ofL, D.unown, App.o_unown] at this ⊢
    rw [this]
theorem dlo_own (xs : List App) : (dl App.o xs).allOwn = true := dl_allOwn App.o_own xs
/-- an appeal as the laws copy it: its lists its own. -/
theorem toAppeal_own (x : App) (hx : x.ok0) : Fn prog 65 [x.d'] (fun rs => rs = [x.o]) := by
  have h1 := toIntS_own x.a hx.1
  have h2 := toIntS_own x.h hx.2
  refine Fn_ofg (ps := [[1, 1, 1, 1, 1, 1, 1, 1, 0], [1, 1, 1, 1, 1, 1, 1, 1, 0], [1, 1, 1, 1, 1, 1, 1, 1, 1], [1, 1, 1, 1, 1, 1, 1, 1, 1]]) (fn := f65) (by exact func65) c65 r65 (n := 25) (by rfl) (rv := [.cell 2 66]) (by rfl) (by simp) ?_
  unfold m65
  simp only [ghAll, ghAt]
  simp only [App.d']
  repeat' (first
      | (simp only [ints_noOwn, onC_true, ↓wA, ↓wC, wB, frzBE, frzBS, Nat.reduceEqDiff, Nat.reduceAdd, Nat.reduceSub, reduceIte, reduceCtorEq, Nat.reduceBEq, Nat.reduceLT, decide_true, sz66])
      | (refine call_det h1 rfl rfl ?_)
      | (refine call_det h2 rfl rfl ?_)
      | (refine execG_split (fun h => ?_) (fun h => ?_) <;> simp only [h])
      | (refine execC_split (fun h => ?_) (fun h => ?_) <;> (try simp only [h]))
      | (refine onPick_split (fun h => ?_) (fun h => ?_) <;> (try simp only [h])))
  refine exec_gh _ (unlink 2 none [3] (es := 1) (xs := dl iD x.a) rfl rfl) fun v1 => ?_
  simp only [obSet, ints_noOwn, onC_true, ↓wA, ↓wC, wB, frzBE, frzBS, Nat.reduceEqDiff, Nat.reduceAdd, Nat.reduceSub, reduceIte, reduceCtorEq, Nat.reduceBEq, Nat.reduceLT, decide_true, sz66]
  refine exec_gh _ (unlink 2 none [4] (es := 1) (xs := dl iD x.h) rfl rfl) fun v2 => ?_
  simp only [obSet, ints_noOwn, onC_true, ↓wA, ↓wC, wB, frzBE, frzBS, Nat.reduceEqDiff, Nat.reduceAdd, Nat.reduceSub, reduceIte, reduceCtorEq, Nat.reduceBEq, Nat.reduceLT, decide_true, sz66]
  refine exec_gh1 (relink 1 6 5 none [3] rfl rfl rfl rfl (by decide) rfl) ?_
  simp only [obSet, ints_noOwn, onC_true, ↓wA, ↓wC, wB, frzBE, frzBS, Nat.reduceEqDiff, Nat.reduceAdd, Nat.reduceSub, reduceIte, reduceCtorEq, Nat.reduceBEq, Nat.reduceLT, decide_true, sz66]
  refine exec_gh1 (relink 1 8 7 none [4] rfl rfl rfl rfl (by decide) rfl) ?_
  simp only [obSet, ints_noOwn, onC_true, ↓wA, ↓wC, wB, frzBE, frzBS, Nat.reduceEqDiff, Nat.reduceAdd, Nat.reduceSub, reduceIte, reduceCtorEq, Nat.reduceBEq, Nat.reduceLT, decide_true, sz66]
  rfl
def oo : Option App → D
  | some x => x.o
  | none => zA
theorem dl_someo : ∀ xs : List App, dl oo (xs.map some) = dl App.o xs
  | [] => rfl
  | x :: xs => by
    have := dl_someo xs
    simp only [dl, List.map_cons, ofL] at this ⊢
    rw [this]; rfl
theorem toAppealS_own (xs : List App) (hlen : xs.length ≤ 1048576) (hx : ∀ x ∈ xs, x.ok0) : Fn prog 9 [.sl false 6 (appsD xs)] (fun rs => rs = [.sl true 6 (dl App.o xs)]) := by
  refine Fn_of' (fn := f9) (by exact func9) c9 r9 (n := 23) (by rfl) (rv := [.tmp 2]) (by rfl) (by simp) ?_
  unfold m9
  simp only [↓wA, ↓wC, wB, frzBE, frzBS, Nat.reduceEqDiff, Nat.reduceAdd, Nat.reduceSub, reduceIte, reduceCtorEq, Nat.reduceBEq, Nat.reduceLT, decide_true, sz66]
  simp only [dl_len, ↓wA, ↓wC, wB, frzBE, frzBS, Nat.reduceEqDiff, Nat.reduceAdd, Nat.reduceSub, reduceIte, reduceCtorEq, Nat.reduceBEq, Nat.reduceLT, decide_true, sz66]
  refine onC_i (by omega) ?_
  have hz : ofL (List.replicate (↑xs.length : Int).toNat zA) = dl oo ((xs.map some).take 0 ++ List.replicate (xs.length - 0) none) := by
    rw [show zA = oo none from rfl, dl_replicate]; simp
  have hz' : D.st ((D.int IntKind.i64 0).cons ((D.int IntKind.i64 0).cons ((D.int IntKind.i64 0).cons ((D.sl true 1 .nil).cons ((D.sl true 1 .nil).cons ((D.int IntKind.i64 0).cons D.nil)))))) = zA := rfl
  rw [hz', hz]
  refine exec_range xs.length (fun i : Nat => ⟨[(0, .d (.sl false 6 (appsD xs))), (3, .own 0), (4, .d (.int .i64 i))], [.val (.sl true 6 (dl oo ((xs.map some).take i ++ List.replicate (xs.length - i) none)))]⟩) (fun _ => True) (weak_of _ rfl ⟨⟨rfl, rfl⟩, ⟨rfl, rfl⟩, ⟨rfl, rfl⟩, trivial⟩) trivial ?_ ?_
  · intro i hlt _ hd h0
    obtain ⟨r, hr⟩ := get_lt hlt
    have hto := toAppeal_own r (hx r (List.mem_of_getElem? hr))
    have hrs : (xs.map some)[i]? = some (some r) := by rw [List.getElem?_map, hr]; rfl
    have hn : ((xs.map some).take i ++ List.replicate (xs.length - i) (none : Option App))[i]? = some none := by
      rw [List.getElem?_append_right (by simp; omega), List.length_take, List.length_map, Nat.min_eq_left (by omega), Nat.sub_self, show xs.length - i = (xs.length - (i + 1)) + 1 by omega]; rfl
    repeat' (first
        | (simp only [dl_len, dl_nth, hd, h0, Int.toNat_natCast, hr, hn, Option.map_some, onC_true, ↓rd_app, App.o_isV, App.o_size, App.o_noOwn, App.noOwn, ↓wA, ↓wC, wB, frzBE, frzBS, Nat.reduceEqDiff, Nat.reduceAdd, Nat.reduceSub, reduceIte, reduceCtorEq, Nat.reduceBEq, Nat.reduceLT, decide_true, sz66])
        | (refine call_det hto (by simp [argsD, argD, valOf, App.unown]) rfl ?_)
        | (refine onI_bare (by simp only [InR]; omega) ?_)
        | (refine execG_split (fun h => ?_) (fun h => ?_) <;> simp only [h])
        | (refine execC_split (fun h => ?_) (fun h => ?_) <;> (try simp only [h]))
        | (refine onPick_split (fun h => ?_) (fun h => ?_) <;> (try simp only [h])))
    refine onC_i rfl ?_
    refine onI_bare (by simp only [InR]; omega) ?_
    have hfs : (dl oo ((xs.map some).take i ++ List.replicate (xs.length - i) none)).setN i r.o = dl oo ((xs.map some).take (i + 1) ++ List.replicate (xs.length - (i + 1)) none) := by
      have hl : xs.length = (xs.map (some : App → Option App)).length := by simp
      rw [show r.o = oo (some r) from rfl, dl_setN]
      conv => lhs; rw [hl]
      conv => rhs; rw [hl]
      rw [fill_step hrs]
    rw [hfs]
    exact ⟨i + 1, (weak_of _ rfl ⟨⟨rfl, rfl⟩, ⟨rfl, rfl⟩, ⟨rfl, rfl⟩, trivial⟩), by omega, by omega⟩
  · intro _ hd
    simp only [dl_len, hd, ↓wA, ↓wC, wB, frzBE, frzBS, Nat.reduceEqDiff, Nat.reduceAdd, Nat.reduceSub, reduceIte, reduceCtorEq, Nat.reduceBEq, Nat.reduceLT, decide_true, sz66]
    have h1 : (xs.map (some : App → Option App)).take xs.length = xs.map some := List.take_of_length_le (by simp)
    rw [h1, Nat.sub_self, List.replicate_zero, List.append_nil, dl_someo]
theorem cloneI_fn (v : List Int) (hlen : v.length ≤ 1048576) : Fn prog 68 [.sl false 1 (dl iD v)] (fun rs => rs = [.sl true 1 (dl iD v)]) := by
  refine Fn_of' (fn := f68) (by exact func68) c68 r68 (n := 8) (by rfl) (rv := [.tmp 2]) (by rfl) (by simp) ?_
  unfold m68
  simp only [↓wA, ↓wC, wB, frzBE, frzBS, Nat.reduceEqDiff, Nat.reduceAdd, Nat.reduceSub, reduceIte, reduceCtorEq, Nat.reduceBEq, Nat.reduceLT, decide_true, sz66]
  refine nilQ_i (fun h => ?_) ?_
  · rw [dl_len] at h
    have e : v = [] := List.length_eq_zero_iff.1 h
    subst e
    simp only [↓wA, ↓wC, wB, frzBE, frzBS, Nat.reduceEqDiff, Nat.reduceAdd, Nat.reduceSub, reduceIte, reduceCtorEq, Nat.reduceBEq, Nat.reduceLT, decide_true, sz66]
    refine take_nil 1 ?_
    rfl
  · simp only [dl_len, ↓wA, ↓wC, wB, frzBE, frzBS, Nat.reduceEqDiff, Nat.reduceAdd, Nat.reduceSub, reduceIte, reduceCtorEq, Nat.reduceBEq, Nat.reduceLT, decide_true, sz66]
    refine onC_i ⟨by omega, by omega⟩ ?_
    simp only [↓wA, ↓wC, wB, frzBE, frzBS, Nat.reduceEqDiff, Nat.reduceAdd, Nat.reduceSub, reduceIte, reduceCtorEq, Nat.reduceBEq, Nat.reduceLT, decide_true, sz66]
theorem cloneA_fn (xs : List App) (hlen : xs.length ≤ 1048576) : Fn prog 132 [.sl false 6 (appsD xs)] (fun rs => rs = [.sl true 6 (appsD xs)]) := by
  refine Fn_of' (fn := f132) (by exact func132) c132 r132 (n := 8) (by rfl) (rv := [.tmp 2]) (by rfl) (by simp) ?_
  unfold m132
  simp only [↓wA, ↓wC, wB, frzBE, frzBS, Nat.reduceEqDiff, Nat.reduceAdd, Nat.reduceSub, reduceIte, reduceCtorEq, Nat.reduceBEq, Nat.reduceLT, decide_true, sz66]
  refine nilQ_i (fun h => ?_) ?_
  · rw [dl_len] at h
    have e : xs = [] := List.length_eq_zero_iff.1 h
    subst e
    simp only [↓wA, ↓wC, wB, frzBE, frzBS, Nat.reduceEqDiff, Nat.reduceAdd, Nat.reduceSub, reduceIte, reduceCtorEq, Nat.reduceBEq, Nat.reduceLT, decide_true, sz66]
    refine take_nil 6 ?_
    rfl
  · simp only [dl_len, ↓wA, ↓wC, wB, frzBE, frzBS, Nat.reduceEqDiff, Nat.reduceAdd, Nat.reduceSub, reduceIte, reduceCtorEq, Nat.reduceBEq, Nat.reduceLT, decide_true, sz66]
    refine onC_i ⟨by omega, by omega⟩ ?_
    simp only [↓wA, ↓wC, wB, frzBE, frzBS, Nat.reduceEqDiff, Nat.reduceAdd, Nat.reduceSub, reduceIte, reduceCtorEq, Nat.reduceBEq, Nat.reduceLT, decide_true, sz66]
end Go.Pe.Try
