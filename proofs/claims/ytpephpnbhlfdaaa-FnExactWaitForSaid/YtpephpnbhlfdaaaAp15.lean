/- Marks on appeals, read again; copies of one's own, walked. -/
import Derived.Test.YtpephpnbhlfdaaaAp14
set_option maxRecDepth 100000
set_option maxHeartbeats 4000000
set_option linter.all false
namespace Go.Pe.Try
open Go.Proofs.Try
theorem markL_get : ∀ (xs : List App) (k : Int) (i : Nat) (x : App), xs[i]? = some x → (markL k xs)[i]? = some (mA (k + sumL (xs.take i)) x)
  | [], _, i, x, h => by simp at h
  | y :: ys, k, 0, x, h => by
    simp only [List.getElem?_cons_zero, Option.some.injEq] at h
    subst h
    simp [markL, sumL]
  | y :: ys, k, i + 1, x, h => by
    simp only [List.getElem?_cons_succ] at h
    simp only [markL, List.getElem?_cons_succ, List.take_succ_cons, sumL]
    rw [markL_get ys _ i x h, Int.add_assoc]
theorem mA_i {K : Int} {x : App} : (mA K x).i = K := rfl
theorem mA_q {K : Int} {x : App} : (mA K x).q = K + 1 := rfl
theorem mA_d {K : Int} {x : App} : (mA K x).d = K + 1 + 1 := by simp only [mA]; omega
theorem mA_a {K : Int} {x : App} : (mA K x).a = ups x.a.length (K + 1 + 1 + 1) := by
  have : K + 1 + 1 + 1 = K + 3 := by omega
  rw [this]; rfl
theorem mA_h {K : Int} {x : App} : (mA K x).h = ups x.h.length (K + 1 + 1 + 1 + x.a.length) := by
  have : K + 1 + 1 + 1 = K + 3 := by omega
  rw [this]; rfl
theorem mA_s {K : Int} {x : App} : (mA K x).s = K + 1 + 1 + 1 + x.a.length + x.h.length := by
  have : K + 1 + 1 + 1 = K + 3 := by omega
  rw [this]; rfl
theorem heldAppealS_fn (xs : List App) (k : Int) (h0 : 0 ≤ k) (h1 : k ≤ 1000) (hlen : xs.length ≤ 1048576) (hx : ∀ x ∈ xs, x.ok0) : Fn prog 11 [.sl false 6 (appsD (markL k xs)), .int .i64 k] (fun rs => rs = [.int .i64 (k + sumL xs)]) := by
  refine Fn_of' (fn := f11) (by exact func11) c11 r11 (n := 67) (by rfl) (rv := [.tmp 4]) (by rfl) (by simp) ?_
  unfold m11
  simp only [dl_len, markL_len, ↓wA, ↓wC, wB, frzBE, frzBS, Nat.reduceEqDiff, Nat.reduceAdd, Nat.reduceSub, reduceIte, reduceCtorEq, Nat.reduceBEq, Nat.reduceLT, decide_true, sz41]
  refine exec_range xs.length (fun i : Nat => ⟨[(0, .d (.sl false 6 (appsD (markL k xs)))), (1, .d (.int .i64 (k + sumL (xs.take i)))), (5, .d (.int .i64 i))], []⟩) (fun _ => True) (weak_of _ rfl ⟨⟨rfl, rfl⟩, ⟨congrArg (fun n => SV.d (.int .i64 n)) (by simp [sumL]), rfl⟩, ⟨rfl, rfl⟩, trivial⟩) trivial ?_ ?_
  · intro i hlt _ hd hi0
    obtain ⟨x, hr⟩ := get_lt hlt
    have hL := markL_get xs k i x hr
    have hb := sumL_bd (xs.take i) (fun y hy => hx y (List.mem_of_mem_take hy))
    have hbl : (xs.take i).length ≤ 1048576 := by simp; omega
    have es : k + sumL (xs.take (i + 1)) = k + sumL (xs.take i) + 4 + x.a.length + x.h.length := by
      rw [take_snoc hr, sumL_snoc, sA]; omega
    generalize hK : k + sumL (xs.take i) = K at hL es
    have hK0 : 0 ≤ K := by omega
    have hK1 : K ≤ 10000000000000 := by omega
    have hxo := hx x (List.mem_of_getElem? hr)
    have hx1 := hxo.1
    have hx2 := hxo.2
    have m1 := heldI_fn x.a.length (K + 1 + 1 + 1) (by omega) (by omega) hx1
    have m2 := heldI_fn x.h.length (K + 1 + 1 + 1 + x.a.length) (by omega) (by omega) hx2
    have n1 : decide (K + 1 + 1 + 1 + (x.a.length : Int) < 0) = false := decide_eq_false (by omega)
    have n2 : decide (K + 1 + 1 + 1 + (x.a.length : Int) + (x.h.length : Int) < 0) = false := decide_eq_false (by omega)
    repeat' (first
        | (simp only [dl_len, markL_len, hd, hi0, dl_nth, Int.toNat_natCast, hL, Option.map_some, onC_true, ↓fa_app0, ↓fa_app1, ↓fa_app2, ↓fa_app3, ↓fa_app4, ↓fa_app5, mA_i, mA_q, mA_d, mA_a, mA_h, mA_s, ints_noOwn, n1, n2, ↓wA, ↓wC, wB, frzBE, frzBS, Nat.reduceEqDiff, Nat.reduceAdd, Nat.reduceSub, reduceIte, reduceCtorEq, Nat.reduceBEq, Nat.reduceLT, decide_true, sz41])
        | (refine call_det (m1) rfl rfl ?_)
        | (refine callP_det (m1) rfl rfl ?_)
        | (refine call_det (m2) rfl rfl ?_)
        | (refine callP_det (m2) rfl rfl ?_)
        | (refine onI_bare (by simp only [InR]; omega) ?_)
        | (refine execG_split (fun h => ?_) (fun h => ?_) <;> simp only [h])
        | (refine execC_split (fun h => ?_) (fun h => ?_) <;> (try simp only [h]))
        | (refine onPick_split (fun h => ?_) (fun h => ?_) <;> (try simp only [h])))
    refine ⟨i + 1, weak_of _ rfl ⟨⟨rfl, rfl⟩, ⟨congrArg (fun n => SV.d (.int .i64 n)) ?_, rfl⟩, ⟨rfl, rfl⟩, trivial⟩, by omega, by omega⟩
    rw [es]; omega
  · intro _ hd
    have e1 : xs.take xs.length = xs := List.take_length
    rw [e1]
    simp only [dl_len, markL_len, hd, ↓wA, ↓wC, wB, frzBE, frzBS, Nat.reduceEqDiff, Nat.reduceAdd, Nat.reduceSub, reduceIte, reduceCtorEq, Nat.reduceBEq, Nat.reduceLT, decide_true, sz41]
theorem App.o_unown (x : App) : x.o.unown = x.d' := by simp [App.o, App.p, App.d', D.unown, ints_unown]
theorem App.o_own (x : App) : x.o.allOwn = true := by simp [App.o, App.p, D.allOwn, dl_allOwn iD_allOwn]
theorem App.o_noOwn (x : App) : x.o.noOwn = false := by simp [App.o, App.p, D.noOwn]
theorem App.o_isV (x : App) : x.o.isV = true := rfl
theorem App.o_size (x : App) : x.o.size = 6 := rfl
theorem dlo_unown : ∀ xs : List App, (dl App.o xs).unown = appsD xs
  | [] => rfl
  | x :: xs => by
    have := dlo_unown xs
    simp only [appsD, dl, List.map_cons, ofL, D.unown, App.o_unown] at this ⊢
    rw [this]
theorem dlo_own (xs : List App) : (dl App.o xs).allOwn = true := dl_allOwn App.o_own xs
/-- an appeal as the laws copy it: its lists its own. -/
theorem toAppeal_own (x : App) (hx : x.ok0) : Fn prog 23 [x.d'] (fun rs => rs = [x.o]) := by
  have h1 := toIntS_own x.a hx.1
  have h2 := toIntS_own x.h hx.2
  refine Fn_ofg (ps := [[1, 1, 1, 1, 1, 1, 1, 1, 0], [1, 1, 1, 1, 1, 1, 1, 1, 0], [1, 1, 1, 1, 1, 1, 1, 1, 1], [1, 1, 1, 1, 1, 1, 1, 1, 1]]) (fn := f23) (by exact func23) c23 r23 (n := 25) (by rfl) (rv := [.cell 2 41]) (by rfl) (by simp) ?_
  unfold m23
  simp only [ghAll, ghAt]
  simp only [App.d']
  repeat' (first
      | (simp only [ints_noOwn, onC_true, ↓wA, ↓wC, wB, frzBE, frzBS, Nat.reduceEqDiff, Nat.reduceAdd, Nat.reduceSub, reduceIte, reduceCtorEq, Nat.reduceBEq, Nat.reduceLT, decide_true, sz41])
      | (refine call_det h1 rfl rfl ?_)
      | (refine call_det h2 rfl rfl ?_)
      | (refine execG_split (fun h => ?_) (fun h => ?_) <;> simp only [h])
      | (refine execC_split (fun h => ?_) (fun h => ?_) <;> (try simp only [h]))
      | (refine onPick_split (fun h => ?_) (fun h => ?_) <;> (try simp only [h])))
  refine exec_gh _ (unlink 2 none [3] (es := 1) (xs := dl iD x.a) rfl rfl) fun v1 => ?_
  simp only [obSet, ints_noOwn, onC_true, ↓wA, ↓wC, wB, frzBE, frzBS, Nat.reduceEqDiff, Nat.reduceAdd, Nat.reduceSub, reduceIte, reduceCtorEq, Nat.reduceBEq, Nat.reduceLT, decide_true, sz41]
  refine exec_gh _ (unlink 2 none [4] (es := 1) (xs := dl iD x.h) rfl rfl) fun v2 => ?_
  simp only [obSet, ints_noOwn, onC_true, ↓wA, ↓wC, wB, frzBE, frzBS, Nat.reduceEqDiff, Nat.reduceAdd, Nat.reduceSub, reduceIte, reduceCtorEq, Nat.reduceBEq, Nat.reduceLT, decide_true, sz41]
  refine exec_gh1 (relink 1 6 5 none [3] rfl rfl rfl rfl (by decide) rfl) ?_
  simp only [obSet, ints_noOwn, onC_true, ↓wA, ↓wC, wB, frzBE, frzBS, Nat.reduceEqDiff, Nat.reduceAdd, Nat.reduceSub, reduceIte, reduceCtorEq, Nat.reduceBEq, Nat.reduceLT, decide_true, sz41]
  refine exec_gh1 (relink 1 8 7 none [4] rfl rfl rfl rfl (by decide) rfl) ?_
  simp only [obSet, ints_noOwn, onC_true, ↓wA, ↓wC, wB, frzBE, frzBS, Nat.reduceEqDiff, Nat.reduceAdd, Nat.reduceSub, reduceIte, reduceCtorEq, Nat.reduceBEq, Nat.reduceLT, decide_true, sz41]
  rfl
def oo : Option App → D
  | some x => x.o
  | none => zA
theorem dl_someo : ∀ xs : List App, dl oo (xs.map some) = dl App.o xs
  | [] => rfl
  | x :: xs => by
    have := dl_someo xs
    simp only [dl, List.map_cons, ofL] at this ⊢
    rw [this]; rfl
theorem toAppealS_own (xs : List App) (hlen : xs.length ≤ 1048576) (hx : ∀ x ∈ xs, x.ok0) : Fn prog 7 [.sl false 6 (appsD xs)] (fun rs => rs = [.sl true 6 (dl App.o xs)]) := by
  refine Fn_of' (fn := f7) (by exact func7) c7 r7 (n := 23) (by rfl) (rv := [.tmp 2]) (by rfl) (by simp) ?_
  unfold m7
  simp only [↓wA, ↓wC, wB, frzBE, frzBS, Nat.reduceEqDiff, Nat.reduceAdd, Nat.reduceSub, reduceIte, reduceCtorEq, Nat.reduceBEq, Nat.reduceLT, decide_true, sz41]
  simp only [dl_len, ↓wA, ↓wC, wB, frzBE, frzBS, Nat.reduceEqDiff, Nat.reduceAdd, Nat.reduceSub, reduceIte, reduceCtorEq, Nat.reduceBEq, Nat.reduceLT, decide_true, sz41]
  refine onC_i (by omega) ?_
  have hz : ofL (List.replicate (↑xs.length : Int).toNat zA) = dl oo ((xs.map some).take 0 ++ List.replicate (xs.length - 0) none) := by
    rw [show zA = oo none from rfl, dl_replicate]; simp
  have hz' : D.st ((D.int IntKind.i64 0).cons ((D.int IntKind.i64 0).cons ((D.int IntKind.i64 0).cons ((D.sl true 1 .nil).cons ((D.sl true 1 .nil).cons ((D.int IntKind.i64 0).cons D.nil)))))) = zA := rfl
  rw [hz', hz]
  refine exec_range xs.length (fun i : Nat => ⟨[(0, .d (.sl false 6 (appsD xs))), (3, .own 0), (4, .d (.int .i64 i))], [.val (.sl true 6 (dl oo ((xs.map some).take i ++ List.replicate (xs.length - i) none)))]⟩) (fun _ => True) (weak_of _ rfl ⟨⟨rfl, rfl⟩, ⟨rfl, rfl⟩, ⟨rfl, rfl⟩, trivial⟩) trivial ?_ ?_
  · intro i hlt _ hd h0
    obtain ⟨r, hr⟩ := get_lt hlt
    have hto := toAppeal_own r (hx r (List.mem_of_getElem? hr))
    have hrs : (xs.map some)[i]? = some (some r) := by rw [List.getElem?_map, hr]; rfl
    have hn : ((xs.map some).take i ++ List.replicate (xs.length - i) (none : Option App))[i]? = some none := by
      rw [List.getElem?_append_right (by simp; omega), List.length_take, List.length_map, Nat.min_eq_left (by omega), Nat.sub_self, show xs.length - i = (xs.length - (i + 1)) + 1 by omega]; rfl
    repeat' (first
        | (simp only [dl_len, dl_nth, hd, h0, Int.toNat_natCast, hr, hn, Option.map_some, onC_true, ↓rd_app, App.o_isV, App.o_size, App.o_noOwn, App.noOwn, ↓wA, ↓wC, wB, frzBE, frzBS, Nat.reduceEqDiff, Nat.reduceAdd, Nat.reduceSub, reduceIte, reduceCtorEq, Nat.reduceBEq, Nat.reduceLT, decide_true, sz41])
        | (refine call_det hto (by simp [argsD, argD, valOf, App.unown]) rfl ?_)
        | (refine onI_bare (by simp only [InR]; omega) ?_)
        | (refine execG_split (fun h => ?_) (fun h => ?_) <;> simp only [h])
        | (refine execC_split (fun h => ?_) (fun h => ?_) <;> (try simp only [h]))
        | (refine onPick_split (fun h => ?_) (fun h => ?_) <;> (try simp only [h])))
    refine onC_i rfl ?_
    refine onI_bare (by simp only [InR]; omega) ?_
    have hfs : (dl oo ((xs.map some).take i ++ List.replicate (xs.length - i) none)).setN i r.o = dl oo ((xs.map some).take (i + 1) ++ List.replicate (xs.length - (i + 1)) none) := by
      have hl : xs.length = (xs.map (some : App → Option App)).length := by simp
      rw [show r.o = oo (some r) from rfl, dl_setN]
      conv => lhs; rw [hl]
      conv => rhs; rw [hl]
      rw [fill_step hrs]
    rw [hfs]
    exact ⟨i + 1, (weak_of _ rfl ⟨⟨rfl, rfl⟩, ⟨rfl, rfl⟩, ⟨rfl, rfl⟩, trivial⟩), by omega, by omega⟩
  · intro _ hd
    simp only [dl_len, hd, ↓wA, ↓wC, wB, frzBE, frzBS, Nat.reduceEqDiff, Nat.reduceAdd, Nat.reduceSub, reduceIte, reduceCtorEq, Nat.reduceBEq, Nat.reduceLT, decide_true, sz41]
    have h1 : (xs.map (some : App → Option App)).take xs.length = xs.map some := List.take_of_length_le (by simp)
    rw [h1, Nat.sub_self, List.replicate_zero, List.append_nil, dl_someo]
theorem cloneI_fn (v : List Int) (hlen : v.length ≤ 1048576) : Fn prog 47 [.sl false 1 (dl iD v)] (fun rs => rs = [.sl true 1 (dl iD v)]) := by
  refine Fn_of' (fn := f47) (by exact func47) c47 r47 (n := 8) (by rfl) (rv := [.tmp 2]) (by rfl) (by simp) ?_
  unfold m47
  simp only [↓wA, ↓wC, wB, frzBE, frzBS, Nat.reduceEqDiff, Nat.reduceAdd, Nat.reduceSub, reduceIte, reduceCtorEq, Nat.reduceBEq, Nat.reduceLT, decide_true, sz41]
  refine nilQ_i (fun h => ?_) ?_
  · rw [dl_len] at h
    have e : v = [] := List.length_eq_zero_iff.1 h
    subst e
    simp only [↓wA, ↓wC, wB, frzBE, frzBS, Nat.reduceEqDiff, Nat.reduceAdd, Nat.reduceSub, reduceIte, reduceCtorEq, Nat.reduceBEq, Nat.reduceLT, decide_true, sz41]
    refine take_nil 1 ?_
    rfl
  · simp only [dl_len, ↓wA, ↓wC, wB, frzBE, frzBS, Nat.reduceEqDiff, Nat.reduceAdd, Nat.reduceSub, reduceIte, reduceCtorEq, Nat.reduceBEq, Nat.reduceLT, decide_true, sz41]
    refine onC_i ⟨by omega, by omega⟩ ?_
    simp only [↓wA, ↓wC, wB, frzBE, frzBS, Nat.reduceEqDiff, Nat.reduceAdd, Nat.reduceSub, reduceIte, reduceCtorEq, Nat.reduceBEq, Nat.reduceLT, decide_true, sz41]
theorem cloneA_fn (xs : List App) (hlen : xs.length ≤ 1048576) : Fn prog 46 [.sl false 6 (appsD xs)] (fun rs => rs = [.sl true 6 (appsD xs)]) := by
  refine Fn_of' (fn := f46) (by exact func46) c46 r46 (n := 8) (by rfl) (rv := [.tmp 2]) (by rfl) (by simp) ?_
  unfold m46
  simp only [↓wA, ↓wC, wB, frzBE, frzBS, Nat.reduceEqDiff, Nat.reduceAdd, Nat.reduceSub, reduceIte, reduceCtorEq, Nat.reduceBEq, Nat.reduceLT, decide_true, sz41]
  refine nilQ_i (fun h => ?_) ?_
  · rw [dl_len] at h
    have e : xs = [] := List.length_eq_zero_iff.1 h
    subst e
    simp only [↓wA, ↓wC, wB, frzBE, frzBS, Nat.reduceEqDiff, Nat.reduceAdd, Nat.reduceSub, reduceIte, reduceCtorEq, Nat.reduceBEq, Nat.reduceLT, decide_true, sz41]
    refine take_nil 6 ?_
    rfl
  · simp only [dl_len, ↓wA, ↓wC, wB, frzBE, frzBS, Nat.reduceEqDiff, Nat.reduceAdd, Nat.reduceSub, reduceIte, reduceCtorEq, Nat.reduceBEq, Nat.reduceLT, decide_true, sz41]
    refine onC_i ⟨by omega, by omega⟩ ?_
    simp only [↓wA, ↓wC, wB, frzBE, frzBS, Nat.reduceEqDiff, Nat.reduceAdd, Nat.reduceSub, reduceIte, reduceCtorEq, Nat.reduceBEq, Nat.reduceLT, decide_true, sz41]
end Go.Pe.Try
