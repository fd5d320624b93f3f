/- Marks on lists of appeals, walked; Marks on appeals, read again; copies of one's own, walked; Copies of appeals as the program makes them, walked; A decided appeal, walked; Copies of appeals and a decided appeal as the reference has them, walked; Lapsed appeals, walked; Lapsed appeals as the reference has them, walked; A new appeal as the reference has it, walked; A new appeal as the program has it, walked; Sorting of a few numbers, walked; A party heard, walked -/
import Derived.Test.YtbkjloohaahmdaaW1
set_option maxRecDepth 100000
set_option maxHeartbeats 4000000
set_option linter.all false
namespace Go.Pe.Try
open Go.Proofs.Try
/-- an appeal with parts of one's own. -/
def App.p (x : App) (da dh : D) : D := .st (.cons (.int .i64 x.i) (.cons (.int .i64 x.q) (.cons (.int .i64 x.d) (.cons da (.cons dh (.cons (.int .i64 x.s) .nil))))))
def App.o (x : App) : D := x.p (.sl true 1 (dl iD x.a)) (.sl true 1 (dl iD x.h))
def mA (k : Int) (x : App) : App := ⟨k, k + 1, k + 2, ups x.a.length (k + 3), ups x.h.length (k + 3 + x.a.length), k + 3 + x.a.length + x.h.length⟩
def sA (x : App) : Int := 4 + x.a.length + x.h.length
def markL : Int → List App → List App
  | _, [] => []
  | k, x :: xs => mA k x :: markL (k + sA x) xs
def sumL : List App → Int
  | [] => 0
  | x :: xs => sA x + sumL xs
theorem markL_len : ∀ (k : Int) (xs : List App), (markL k xs).length = xs.length
  | _, [] => rfl
  | k, x :: xs => by simp [markL, markL_len]
theorem markL_snoc : ∀ (k : Int) (xs : List App) (x : App), markL k (xs ++ [x]) = markL k xs ++ [mA (k + sumL xs) x]
  | k, [], x => by simp [markL, sumL]
  | k, y :: ys, x => by
    simp only [List.cons_append, markL, markL_snoc, sumL]
    rw [Int.add_assoc]
theorem sumL_snoc : ∀ (xs : List App) (x : App), sumL (xs ++ [x]) = sumL xs + sA x
  | [], x => by simp [sumL]
  | y :: ys, x => by simp only [List.cons_append, sumL, sumL_snoc]; omega
theorem take_snoc {α : Type} {xs : List α} {i : Nat} {r : α} (hr : xs[i]? = some r) : xs.take (i + 1) = xs.take i ++ [r] := by
  have hi := lt_of_get hr
  rw [List.take_succ_eq_append_getElem hi]
  rw [List.getElem?_eq_getElem hi] at hr
  injection hr with hr
  rw [hr]
theorem sumL_bd : ∀ (xs : List App), (∀ x ∈ xs, x.ok0) → 0 ≤ sumL xs ∧ sumL xs ≤ 3000000 * xs.length
  | [], _ => by simp [sumL]
  | x :: xs, h => by
    have h1 := sumL_bd xs fun y hy => h y (List.mem_cons_of_mem _ hy)
    have h2 := h x (List.mem_cons_self ..)
    unfold App.ok0 at h2
    simp only [sumL, sA, List.length_cons]
    omega
theorem dset_p0 {x : App} {da dh : D} {k : Int} : dset [0] (x.p da dh) (.int .i64 k) = App.p { x with i := k } da dh := rfl
theorem dset_p1 {x : App} {da dh : D} {k : Int} : dset [1] (x.p da dh) (.int .i64 k) = App.p { x with q := k } da dh := rfl
theorem dset_p2 {x : App} {da dh : D} {k : Int} : dset [2] (x.p da dh) (.int .i64 k) = App.p { x with d := k } da dh := rfl
theorem dset_p5 {x : App} {da dh : D} {k : Int} : dset [5] (x.p da dh) (.int .i64 k) = App.p { x with s := k } da dh := rfl
theorem doff_p0 {x : App} {da dh : D} : doff [0] (x.p da dh) = 0 := rfl
theorem doff_p1 {x : App} {da dh : D} : doff [1] (x.p da dh) = 1 := rfl
theorem doff_p2 {x : App} {da dh : D} : doff [2] (x.p da dh) = 2 := rfl
theorem doff_p3 {x : App} {da dh : D} : doff [3] (x.p da dh) = 3 := rfl
theorem doff_p4 {x : App} {da dh : D} (h : da.size = 1) : doff [4] (x.p da dh) = 4 := by simp [doff, App.p, D.pre, D.nth, D.size, h]
theorem doff_p5 {x : App} {da dh : D} (h : da.size = 1) (h2 : dh.size = 1) : doff [5] (x.p da dh) = 5 := by simp [doff, App.p, D.pre, D.nth, D.size, h, h2]
theorem dget_p0 {x : App} {da dh : D} : dget [0] (x.p da dh) = some (.int .i64 x.i) := rfl
theorem dget_p1 {x : App} {da dh : D} : dget [1] (x.p da dh) = some (.int .i64 x.q) := rfl
theorem dget_p2 {x : App} {da dh : D} : dget [2] (x.p da dh) = some (.int .i64 x.d) := rfl
theorem dget_p3 {x : App} {da dh : D} : dget [3] (x.p da dh) = some da := rfl
theorem dget_p4 {x : App} {da dh : D} : dget [4] (x.p da dh) = some dh := rfl
theorem dget_p5 {x : App} {da dh : D} : dget [5] (x.p da dh) = some (.int .i64 x.s) := rfl
theorem dset_p3 {x : App} {da dh u : D} : dset [3] (x.p da dh) u = x.p u dh := rfl
theorem dset_p4 {x : App} {da dh u : D} : dset [4] (x.p da dh) u = x.p da u := rfl
theorem setN_setN : ∀ (xs : D) (i : Nat) (y z : D), (xs.setN i y).setN i z = xs.setN i z := by
  intro xs
  induction xs with
  | cons a xs ih1 ih2 => intro i y z; cases i with
    | zero => rfl
    | succ i => simp only [D.setN]; rw [ih2]
  | _ => intro i y z; cases i <;> rfl
theorem markAppealS_fn (xs : List App) (k : Int) (h0 : 0 ≤ k) (h1 : k ≤ 1000) (hlen : xs.length ≤ 1048576) (hx : ∀ x ∈ xs, x.ok0) : FnM prog 13 false (.sl true 6 (dl App.o xs)) [.int .i64 k] (fun x' rs => x' = .sl true 6 (dl App.o (markL k xs)) ∧ rs = [.int .i64 (k + sumL xs)]) := by
  refine FnM_ofg (ps := [[1, 0, 1, 0, 0, 1, 0, 0, 1, 1, 1, 1, 1, 1, 1, 1, 0], [1, 0, 1, 0, 0, 1, 0, 0, 1, 1, 1, 1, 1, 1, 1, 0], [1, 0, 1, 0, 0, 1, 0, 0, 1, 1, 1, 1, 1, 1, 1, 0], [1, 0, 1, 0, 0, 1, 0, 0, 1, 1, 1, 1, 1, 1, 0]]) (fn := f13) (by exact func13) c13 r13 (n := 55) (by rfl) (rv := [.tmp 4]) (by rfl) (by decide) (by simp) ?_
  unfold m13
  simp only [ghAll, ghAt]
  simp only [dl_len, ↓wA, ↓wC, wB, frzBE, frzBS, Nat.reduceEqDiff, Nat.reduceAdd, Nat.reduceSub, reduceIte, reduceCtorEq, Nat.reduceBEq, Nat.reduceLT, decide_true]
  refine exec_range xs.length (fun i : Nat => ⟨[(0, .own 0), (1, .d (.int .i64 (k + sumL (xs.take i)))), (5, .d (.int .i64 i))], [.val (.sl true 6 (dl App.o (markL k (xs.take i) ++ xs.drop i)))]⟩) (fun _ => True) (weak_of [] rfl ⟨⟨rfl, rfl⟩, ⟨congrArg (fun n => SV.d (.int .i64 n)) (by simp [sumL]), rfl⟩, ⟨rfl, rfl⟩, trivial⟩) trivial ?_ ?_
  · intro i hlt _ hd hi0
    obtain ⟨x, hr⟩ := get_lt hlt
    have hL : (markL k (xs.take i) ++ xs.drop i)[i]? = some x := by
      rw [List.getElem?_append_right (by rw [markL_len]; simp; omega), markL_len, List.length_take, Nat.min_eq_left (by omega), Nat.sub_self, List.getElem?_drop]; exact hr
    have hll : (markL k (xs.take i) ++ xs.drop i).length = xs.length := by rw [List.length_append, markL_len, List.length_take, List.length_drop]; omega
    have hb := sumL_bd (xs.take i) (fun y hy => hx y (List.mem_of_mem_take hy))
    have hbl : (xs.take i).length ≤ 1048576 := by simp; omega
    generalize hK : k + sumL (xs.take i) = K
    have hK0 : 0 ≤ K := by omega
    have hK1 : K ≤ 10000000000000 := by omega
    have hgs : ∀ {f : App → D} (y : D), ((dl f (markL k (xs.take i) ++ xs.drop i)).setN i y).nth i = some y := fun y => by rw [setN_nth, if_pos rfl, dl_nth, hL]; rfl
    repeat' (first
        | (simp only [dl_len, hll, hd, hi0, dl_nth, Int.toNat_natCast, hL, Option.map_some, onC_true, App.o, hgs, setN_len, dset_p0, dset_p1, dset_p2, doff_p0, doff_p1, doff_p2, doff_p3, doff_p4, doff_p5, dget_p0, dget_p1, dget_p2, dget_p3, dget_p4, dget_p5, setN_setN, ↓wA, ↓wC, wB, frzBE, frzBS, Nat.reduceEqDiff, Nat.reduceAdd, Nat.reduceSub, reduceIte, reduceCtorEq, Nat.reduceBEq, Nat.reduceLT, decide_true])
        | (refine onI_bare (by simp only [InR]; omega) ?_)
        | (refine execG_split (fun h => ?_) (fun h => ?_) <;> simp only [h])
        | (refine execC_split (fun h => ?_) (fun h => ?_) <;> (try simp only [h]))
        | (refine onPick_split (fun h => ?_) (fun h => ?_) <;> (try simp only [h])))
    have hxo := hx x (List.mem_of_getElem? hr)
    have hx1 := hxo.1
    have hx2 := hxo.2
    refine exec_gh _ (unlink 0 (some i) [3] (es := 1) (xs := dl iD x.a) rfl (by simp only [obPart, hgs, Option.bind_some, dget_p3])) fun v => ?_
    have m1 := markI_fn x.a (K + 1 + 1 + 1) (by omega) (by omega) hx1
    repeat' (first
        | (simp only [dl_len, hll, hd, hi0, dl_nth, Int.toNat_natCast, hL, Option.map_some, onC_true, hgs, setN_len, dset_p0, dset_p1, dset_p2, dset_p3, dset_p4, dset_p5, doff_p0, doff_p1, doff_p2, doff_p3, doff_p4, doff_p5, dget_p0, dget_p1, dget_p2, dget_p3, dget_p4, dget_p5, setN_setN, obSet, Option.getD_some, ↓wA, ↓wC, wB, frzBE, frzBS, Nat.reduceEqDiff, Nat.reduceAdd, Nat.reduceSub, reduceIte, reduceCtorEq, Nat.reduceBEq, Nat.reduceLT, decide_true])
        | (refine onI_bare (by simp only [InR]; omega) ?_)
        | (refine execG_split (fun h => ?_) (fun h => ?_) <;> simp only [h])
        | (refine execC_split (fun h => ?_) (fun h => ?_) <;> (try simp only [h]))
        | (refine onPick_split (fun h => ?_) (fun h => ?_) <;> (try simp only [h])))
    refine callM_det m1 rfl rfl rfl ?_
    repeat' (first
        | (simp only [dl_len, hll, hd, hi0, dl_nth, Int.toNat_natCast, hL, Option.map_some, onC_true, hgs, setN_len, dset_p0, dset_p1, dset_p2, dset_p3, dset_p4, dset_p5, doff_p0, doff_p1, doff_p2, doff_p3, doff_p4, doff_p5, dget_p0, dget_p1, dget_p2, dget_p3, dget_p4, dget_p5, setN_setN, obSet, Option.getD_some, ↓wA, ↓wC, wB, frzBE, frzBS, Nat.reduceEqDiff, Nat.reduceAdd, Nat.reduceSub, reduceIte, reduceCtorEq, Nat.reduceBEq, Nat.reduceLT, decide_true])
        | (refine onI_bare (by simp only [InR]; omega) ?_)
        | (refine execG_split (fun h => ?_) (fun h => ?_) <;> simp only [h])
        | (refine execC_split (fun h => ?_) (fun h => ?_) <;> (try simp only [h]))
        | (refine onPick_split (fun h => ?_) (fun h => ?_) <;> (try simp only [h])))
    refine exec_gh1 (relink 0 2 1 (some i) [3] rfl (by simp only [obPart, hgs, Option.bind_some, dget_p3]) rfl rfl (by decide) rfl) ?_
    simp only [dl_len, hll, hd, hi0, dl_nth, Int.toNat_natCast, hL, Option.map_some, onC_true, hgs, setN_len, dset_p0, dset_p1, dset_p2, dset_p3, dset_p4, dset_p5, doff_p0, doff_p1, doff_p2, doff_p3, doff_p4, doff_p5, dget_p0, dget_p1, dget_p2, dget_p3, dget_p4, dget_p5, setN_setN, obSet, Option.getD_some, ↓wA, ↓wC, wB, frzBE, frzBS, Nat.reduceEqDiff, Nat.reduceAdd, Nat.reduceSub, reduceIte, reduceCtorEq, Nat.reduceBEq, Nat.reduceLT, decide_true]
    refine exec_gh _ (unlink 0 (some i) [4] (es := 1) (xs := dl iD x.h) rfl (by simp only [obPart, hgs, Option.bind_some, dget_p4])) fun v2 => ?_
    have m2 := markI_fn x.h (K + 1 + 1 + 1 + x.a.length) (by omega) (by omega) hx2
    repeat' (first
        | (simp only [dl_len, hll, hd, hi0, dl_nth, Int.toNat_natCast, hL, Option.map_some, onC_true, hgs, setN_len, dset_p0, dset_p1, dset_p2, dset_p3, dset_p4, dset_p5, doff_p0, doff_p1, doff_p2, doff_p3, doff_p4, doff_p5, dget_p0, dget_p1, dget_p2, dget_p3, dget_p4, dget_p5, setN_setN, obSet, Option.getD_some, ↓wA, ↓wC, wB, frzBE, frzBS, Nat.reduceEqDiff, Nat.reduceAdd, Nat.reduceSub, reduceIte, reduceCtorEq, Nat.reduceBEq, Nat.reduceLT, decide_true])
        | (refine onI_bare (by simp only [InR]; omega) ?_)
        | (refine execG_split (fun h => ?_) (fun h => ?_) <;> simp only [h])
        | (refine execC_split (fun h => ?_) (fun h => ?_) <;> (try simp only [h]))
        | (refine onPick_split (fun h => ?_) (fun h => ?_) <;> (try simp only [h])))
    refine callM_det m2 rfl rfl rfl ?_
    repeat' (first
        | (simp only [dl_len, hll, hd, hi0, dl_nth, Int.toNat_natCast, hL, Option.map_some, onC_true, hgs, setN_len, dset_p0, dset_p1, dset_p2, dset_p3, dset_p4, dset_p5, doff_p0, doff_p1, doff_p2, doff_p3, doff_p4, doff_p5, dget_p0, dget_p1, dget_p2, dget_p3, dget_p4, dget_p5, setN_setN, obSet, Option.getD_some, ↓wA, ↓wC, wB, frzBE, frzBS, Nat.reduceEqDiff, Nat.reduceAdd, Nat.reduceSub, reduceIte, reduceCtorEq, Nat.reduceBEq, Nat.reduceLT, decide_true])
        | (refine onI_bare (by simp only [InR]; omega) ?_)
        | (refine execG_split (fun h => ?_) (fun h => ?_) <;> simp only [h])
        | (refine execC_split (fun h => ?_) (fun h => ?_) <;> (try simp only [h]))
        | (refine onPick_split (fun h => ?_) (fun h => ?_) <;> (try simp only [h])))
    refine exec_gh1 (relink 0 4 3 (some i) [4] rfl (by simp only [obPart, hgs, Option.bind_some, dget_p4]) rfl rfl (by decide) rfl) ?_
    repeat' (first
        | (simp only [dl_len, hll, hd, hi0, dl_nth, Int.toNat_natCast, hL, Option.map_some, onC_true, hgs, setN_len, dset_p0, dset_p1, dset_p2, dset_p3, dset_p4, dset_p5, doff_p0, doff_p1, doff_p2, doff_p3, doff_p4, doff_p5, dget_p0, dget_p1, dget_p2, dget_p3, dget_p4, dget_p5, setN_setN, obSet, Option.getD_some, ↓wA, ↓wC, wB, frzBE, frzBS, Nat.reduceEqDiff, Nat.reduceAdd, Nat.reduceSub, reduceIte, reduceCtorEq, Nat.reduceBEq, Nat.reduceLT, decide_true])
        | (refine onI_bare (by simp only [InR]; omega) ?_)
        | (refine execG_split (fun h => ?_) (fun h => ?_) <;> simp only [h])
        | (refine execC_split (fun h => ?_) (fun h => ?_) <;> (try simp only [h]))
        | (refine onPick_split (fun h => ?_) (fun h => ?_) <;> (try simp only [h])))
    have e2 : K + 1 + 1 = K + 2 := by omega
    have e3 : K + 1 + 1 + 1 = K + 3 := by omega
    have ex : App.p { i := K, q := K + 1, d := K + 1 + 1, a := x.a, h := x.h, s := K + 1 + 1 + 1 + x.a.length + x.h.length } (.sl true 1 (dl iD (ups x.a.length (K + 1 + 1 + 1)))) (.sl true 1 (dl iD (ups x.h.length (K + 1 + 1 + 1 + x.a.length)))) = App.o (mA K x) := by
      rw [e3, e2]; rfl
    have el : (markL k (xs.take i) ++ xs.drop i).set i (mA K x) = markL k (xs.take (i + 1)) ++ xs.drop (i + 1) := by
      rw [List.set_append_right _ _ (by rw [markL_len]; simp; omega), markL_len, List.length_take, Nat.min_eq_left (by omega), Nat.sub_self, adrop_get hr, List.set_cons_zero, take_snoc hr, markL_snoc, hK, List.append_assoc]
      rfl
    have es : K + 1 + 1 + 1 + x.a.length + x.h.length + 1 = k + sumL (xs.take (i + 1)) := by
      rw [take_snoc hr, sumL_snoc, ← Int.add_assoc, hK, sA]; omega
    rw [ex, dl_setN, el, es]
    exact ⟨i + 1, (weak_of _ rfl ⟨⟨rfl, rfl⟩, ⟨rfl, rfl⟩, ⟨rfl, rfl⟩, trivial⟩), by omega, by omega⟩
  · intro _ hd
    have e1 : xs.take xs.length = xs := List.take_length
    have e2 : (markL k (xs.take xs.length) ++ xs.drop xs.length) = markL k xs := by rw [e1, List.drop_length, List.append_nil]
    rw [e2, e1]
    simp only [dl_len, markL_len, hd, ↓wA, ↓wC, wB, frzBE, frzBS, Nat.reduceEqDiff, Nat.reduceAdd, Nat.reduceSub, reduceIte, reduceCtorEq, Nat.reduceBEq, Nat.reduceLT, decide_true]
end Go.Pe.Try

set_option maxRecDepth 100000
set_option maxHeartbeats 4000000
set_option linter.all false
namespace Go.Pe.Try
open Go.Proofs.Try
theorem markL_get : ∀ (xs : List App) (k : Int) (i : Nat) (x : App), xs[i]? = some x → (markL k xs)[i]? = some (mA (k + sumL (xs.take i)) x)
  | [], _, i, x, h => by simp at h
  | y :: ys, k, 0, x, h => by
    simp only [List.getElem?_cons_zero, Option.some.injEq] at h
    subst h
    simp [markL, sumL]
  | y :: ys, k, i + 1, x, h => by
    simp only [List.getElem?_cons_succ] at h
    simp only [markL, List.getElem?_cons_succ, List.take_succ_cons, sumL]
    rw [markL_get ys _ i x h, Int.add_assoc]
theorem mA_i {K : Int} {x : App} : (mA K x).i = K := rfl
theorem mA_q {K : Int} {x : App} : (mA K x).q = K + 1 := rfl
theorem mA_d {K : Int} {x : App} : (mA K x).d = K + 1 + 1 := by simp only [mA]; omega
theorem mA_a {K : Int} {x : App} : (mA K x).a = ups x.a.length (K + 1 + 1 + 1) := by
  have : K + 1 + 1 + 1 = K + 3 := by omega
  rw [this]; rfl
theorem mA_h {K : Int} {x : App} : (mA K x).h = ups x.h.length (K + 1 + 1 + 1 + x.a.length) := by
  have : K + 1 + 1 + 1 = K + 3 := by omega
  rw [this]; rfl
theorem mA_s {K : Int} {x : App} : (mA K x).s = K + 1 + 1 + 1 + x.a.length + x.h.length := by
  have : K + 1 + 1 + 1 = K + 3 := by omega
  rw [this]; rfl
theorem App.o_unown (x : App) : x.o.unown = x.d' := by simp [App.o, App.p, App.d', D.unown, ints_unown]
theorem App.o_own (x : App) : x.o.allOwn = true := by simp [App.o, App.p, D.allOwn, dl_allOwn iD_allOwn]
theorem App.o_noOwn (x : App) : x.o.noOwn = false := by simp [App.o, App.p, D.noOwn]
theorem App.o_isV (x : App) : x.o.isV = true := rfl
theorem App.o_size (x : App) : x.o.size = 6 := rfl
theorem dlo_unown : ∀ xs : List App, (dl App.o xs).unown = appsD xs
  | [] => rfl
  | x :: xs => by
    have := dlo_unown xs
    simp only [appsD, dl, List.map_cons, ofL, D.unown, App.o_unown] at this ⊢
    rw [this]
theorem dlo_own (xs : List App) : (dl App.o xs).allOwn = true := dl_allOwn App.o_own xs
/-- an appeal as the laws copy it: its lists its own. -/
theorem toAppeal_own (x : App) (hx : x.ok0) : Fn prog 65 [x.d'] (fun rs => rs = [x.o]) := by
  have h1 := toIntS_own x.a hx.1
  have h2 := toIntS_own x.h hx.2
  refine Fn_ofg (ps := [[1, 1, 1, 1, 1, 1, 1, 1, 0], [1, 1, 1, 1, 1, 1, 1, 1, 0], [1, 1, 1, 1, 1, 1, 1, 1, 1], [1, 1, 1, 1, 1, 1, 1, 1, 1]]) (fn := f65) (by exact func65) c65 r65 (n := 25) (by rfl) (rv := [.cell 2 66]) (by rfl) (by simp) ?_
  unfold m65
  simp only [ghAll, ghAt]
  simp only [App.d']
  repeat' (first
      | (simp only [ints_noOwn, onC_true, ↓wA, ↓wC, wB, frzBE, frzBS, Nat.reduceEqDiff, Nat.reduceAdd, Nat.reduceSub, reduceIte, reduceCtorEq, Nat.reduceBEq, Nat.reduceLT, decide_true, sz66])
      | (refine call_det h1 rfl rfl ?_)
      | (refine call_det h2 rfl rfl ?_)
      | (refine execG_split (fun h => ?_) (fun h => ?_) <;> simp only [h])
      | (refine execC_split (fun h => ?_) (fun h => ?_) <;> (try simp only [h]))
      | (refine onPick_split (fun h => ?_) (fun h => ?_) <;> (try simp only [h])))
  refine exec_gh _ (unlink 2 none [3] (es := 1) (xs := dl iD x.a) rfl rfl) fun v1 => ?_
  simp only [obSet, ints_noOwn, onC_true, ↓wA, ↓wC, wB, frzBE, frzBS, Nat.reduceEqDiff, Nat.reduceAdd, Nat.reduceSub, reduceIte, reduceCtorEq, Nat.reduceBEq, Nat.reduceLT, decide_true, sz66]
  refine exec_gh _ (unlink 2 none [4] (es := 1) (xs := dl iD x.h) rfl rfl) fun v2 => ?_
  simp only [obSet, ints_noOwn, onC_true, ↓wA, ↓wC, wB, frzBE, frzBS, Nat.reduceEqDiff, Nat.reduceAdd, Nat.reduceSub, reduceIte, reduceCtorEq, Nat.reduceBEq, Nat.reduceLT, decide_true, sz66]
  refine exec_gh1 (relink 1 6 5 none [3] rfl rfl rfl rfl (by decide) rfl) ?_
  simp only [obSet, ints_noOwn, onC_true, ↓wA, ↓wC, wB, frzBE, frzBS, Nat.reduceEqDiff, Nat.reduceAdd, Nat.reduceSub, reduceIte, reduceCtorEq, Nat.reduceBEq, Nat.reduceLT, decide_true, sz66]
  refine exec_gh1 (relink 1 8 7 none [4] rfl rfl rfl rfl (by decide) rfl) ?_
  simp only [obSet, ints_noOwn, onC_true, ↓wA, ↓wC, wB, frzBE, frzBS, Nat.reduceEqDiff, Nat.reduceAdd, Nat.reduceSub, reduceIte, reduceCtorEq, Nat.reduceBEq, Nat.reduceLT, decide_true, sz66]
  rfl
def oo : Option App → D
  | some x => x.o
  | none => zA
theorem dl_someo : ∀ xs : List App, dl oo (xs.map some) = dl App.o xs
  | [] => rfl
  | x :: xs => by
    have := dl_someo xs
    simp only [dl, List.map_cons, ofL] at this ⊢
    rw [this]; rfl
theorem toAppealS_own (xs : List App) (hlen : xs.length ≤ 1048576) (hx : ∀ x ∈ xs, x.ok0) : Fn prog 9 [.sl false 6 (appsD xs)] (fun rs => rs = [.sl true 6 (dl App.o xs)]) := by
  refine Fn_of' (fn := f9) (by exact func9) c9 r9 (n := 23) (by rfl) (rv := [.tmp 2]) (by rfl) (by simp) ?_
  unfold m9
  simp only [↓wA, ↓wC, wB, frzBE, frzBS, Nat.reduceEqDiff, Nat.reduceAdd, Nat.reduceSub, reduceIte, reduceCtorEq, Nat.reduceBEq, Nat.reduceLT, decide_true, sz66]
  simp only [dl_len, ↓wA, ↓wC, wB, frzBE, frzBS, Nat.reduceEqDiff, Nat.reduceAdd, Nat.reduceSub, reduceIte, reduceCtorEq, Nat.reduceBEq, Nat.reduceLT, decide_true, sz66]
  refine onC_i (by omega) ?_
  have hz : ofL (List.replicate (↑xs.length : Int).toNat zA) = dl oo ((xs.map some).take 0 ++ List.replicate (xs.length - 0) none) := by
    rw [show zA = oo none from rfl, dl_replicate]; simp
  have hz' : D.st ((D.int IntKind.i64 0).cons ((D.int IntKind.i64 0).cons ((D.int IntKind.i64 0).cons ((D.sl true 1 .nil).cons ((D.sl true 1 .nil).cons ((D.int IntKind.i64 0).cons D.nil)))))) = zA := rfl
  rw [hz', hz]
  refine exec_range xs.length (fun i : Nat => ⟨[(0, .d (.sl false 6 (appsD xs))), (3, .own 0), (4, .d (.int .i64 i))], [.val (.sl true 6 (dl oo ((xs.map some).take i ++ List.replicate (xs.length - i) none)))]⟩) (fun _ => True) (weak_of _ rfl ⟨⟨rfl, rfl⟩, ⟨rfl, rfl⟩, ⟨rfl, rfl⟩, trivial⟩) trivial ?_ ?_
  · intro i hlt _ hd h0
    obtain ⟨r, hr⟩ := get_lt hlt
    have hto := toAppeal_own r (hx r (List.mem_of_getElem? hr))
    have hrs : (xs.map some)[i]? = some (some r) := by rw [List.getElem?_map, hr]; rfl
    have hn : ((xs.map some).take i ++ List.replicate (xs.length - i) (none : Option App))[i]? = some none := by
      rw [List.getElem?_append_right (by simp; omega), List.length_take, List.length_map, Nat.min_eq_left (by omega), Nat.sub_self, show xs.length - i = (xs.length - (i + 1)) + 1 by omega]; rfl
    repeat' (first
        | (simp only [dl_len, dl_nth, hd, h0, Int.toNat_natCast, hr, hn, Option.map_some, onC_true, ↓rd_app, App.o_isV, App.o_size, App.o_noOwn, App.noOwn, ↓wA, ↓wC, wB, frzBE, frzBS, Nat.reduceEqDiff, Nat.reduceAdd, Nat.reduceSub, reduceIte, reduceCtorEq, Nat.reduceBEq, Nat.reduceLT, decide_true, sz66])
        | (refine call_det hto (by simp [argsD, argD, valOf, App.unown]) rfl ?_)
        | (refine onI_bare (by simp only [InR]; omega) ?_)
        | (refine execG_split (fun h => ?_) (fun h => ?_) <;> simp only [h])
        | (refine execC_split (fun h => ?_) (fun h => ?_) <;> (try simp only [h]))
        | (refine onPick_split (fun h => ?_) (fun h => ?_) <;> (try simp only [h])))
    refine onC_i rfl ?_
    refine onI_bare (by simp only [InR]; omega) ?_
    have hfs : (dl oo ((xs.map some).take i ++ List.replicate (xs.length - i) none)).setN i r.o = dl oo ((xs.map some).take (i + 1) ++ List.replicate (xs.length - (i + 1)) none) := by
      have hl : xs.length = (xs.map (some : App → Option App)).length := by simp
      rw [show r.o = oo (some r) from rfl, dl_setN]
      conv => lhs; rw [hl]
      conv => rhs; rw [hl]
      rw [fill_step hrs]
    rw [hfs]
    exact ⟨i + 1, (weak_of _ rfl ⟨⟨rfl, rfl⟩, ⟨rfl, rfl⟩, ⟨rfl, rfl⟩, trivial⟩), by omega, by omega⟩
  · intro _ hd
    simp only [dl_len, hd, ↓wA, ↓wC, wB, frzBE, frzBS, Nat.reduceEqDiff, Nat.reduceAdd, Nat.reduceSub, reduceIte, reduceCtorEq, Nat.reduceBEq, Nat.reduceLT, decide_true, sz66]
    have h1 : (xs.map (some : App → Option App)).take xs.length = xs.map some := List.take_of_length_le (by simp)
    rw [h1, Nat.sub_self, List.replicate_zero, List.append_nil, dl_someo]
theorem cloneI_fn (v : List Int) (hlen : v.length ≤ 1048576) : Fn prog 68 [.sl false 1 (dl iD v)] (fun rs => rs = [.sl true 1 (dl iD v)]) := by
  refine Fn_of' (fn := f68) (by exact func68) c68 r68 (n := 8) (by rfl) (rv := [.tmp 2]) (by rfl) (by simp) ?_
  unfold m68
  simp only [↓wA, ↓wC, wB, frzBE, frzBS, Nat.reduceEqDiff, Nat.reduceAdd, Nat.reduceSub, reduceIte, reduceCtorEq, Nat.reduceBEq, Nat.reduceLT, decide_true, sz66]
  refine nilQ_i (fun h => ?_) ?_
  · rw [dl_len] at h
    have e : v = [] := List.length_eq_zero_iff.1 h
    subst e
    simp only [↓wA, ↓wC, wB, frzBE, frzBS, Nat.reduceEqDiff, Nat.reduceAdd, Nat.reduceSub, reduceIte, reduceCtorEq, Nat.reduceBEq, Nat.reduceLT, decide_true, sz66]
    refine take_nil 1 ?_
    rfl
  · simp only [dl_len, ↓wA, ↓wC, wB, frzBE, frzBS, Nat.reduceEqDiff, Nat.reduceAdd, Nat.reduceSub, reduceIte, reduceCtorEq, Nat.reduceBEq, Nat.reduceLT, decide_true, sz66]
    refine onC_i ⟨by omega, by omega⟩ ?_
    simp only [↓wA, ↓wC, wB, frzBE, frzBS, Nat.reduceEqDiff, Nat.reduceAdd, Nat.reduceSub, reduceIte, reduceCtorEq, Nat.reduceBEq, Nat.reduceLT, decide_true, sz66]
theorem cloneA_fn (xs : List App) (hlen : xs.length ≤ 1048576) : Fn prog 132 [.sl false 6 (appsD xs)] (fun rs => rs = [.sl true 6 (appsD xs)]) := by
  refine Fn_of' (fn := f132) (by exact func132) c132 r132 (n := 8) (by rfl) (rv := [.tmp 2]) (by rfl) (by simp) ?_
  unfold m132
  simp only [↓wA, ↓wC, wB, frzBE, frzBS, Nat.reduceEqDiff, Nat.reduceAdd, Nat.reduceSub, reduceIte, reduceCtorEq, Nat.reduceBEq, Nat.reduceLT, decide_true, sz66]
  refine nilQ_i (fun h => ?_) ?_
  · rw [dl_len] at h
    have e : xs = [] := List.length_eq_zero_iff.1 h
    subst e
    simp only [↓wA, ↓wC, wB, frzBE, frzBS, Nat.reduceEqDiff, Nat.reduceAdd, Nat.reduceSub, reduceIte, reduceCtorEq, Nat.reduceBEq, Nat.reduceLT, decide_true, sz66]
    refine take_nil 6 ?_
    rfl
  · simp only [dl_len, ↓wA, ↓wC, wB, frzBE, frzBS, Nat.reduceEqDiff, Nat.reduceAdd, Nat.reduceSub, reduceIte, reduceCtorEq, Nat.reduceBEq, Nat.reduceLT, decide_true, sz66]
    refine onC_i ⟨by omega, by omega⟩ ?_
    simp only [↓wA, ↓wC, wB, frzBE, frzBS, Nat.reduceEqDiff, Nat.reduceAdd, Nat.reduceSub, reduceIte, reduceCtorEq, Nat.reduceBEq, Nat.reduceLT, decide_true, sz66]
end Go.Pe.Try

set_option maxRecDepth 100000
set_option maxHeartbeats 4000000
set_option linter.all false
namespace Go.Pe.Try
open Go.Proofs.Try
def om (p : Bool × App) : D := if p.1 then p.2.o else p.2.d'
def mixA (xs : List App) (i : Nat) : List (Bool × App) := (xs.take i).map (fun x => (true, x)) ++ (xs.drop i).map (fun x => (false, x))
theorem mixA_len (xs : List App) (i : Nat) : (mixA xs i).length = xs.length := by simp [mixA]; omega
theorem mixA_get {xs : List App} {i : Nat} {x : App} (hr : xs[i]? = some x) : (mixA xs i)[i]? = some (false, x) := by
  have hi := lt_of_get hr
  rw [mixA, List.getElem?_append_right (by simp; omega), List.length_map, List.length_take, Nat.min_eq_left (by omega), Nat.sub_self, List.getElem?_map, List.getElem?_drop]
  simp [hr]
theorem mixA_set {xs : List App} {i : Nat} {x : App} (hr : xs[i]? = some x) : (mixA xs i).set i (true, x) = mixA xs (i + 1) := by
  have hi := lt_of_get hr
  rw [mixA, List.set_append_right _ _ (by simp; omega), List.length_map, List.length_take, Nat.min_eq_left (by omega), Nat.sub_self, adrop_get hr, List.map_cons, List.set_cons_zero, mixA, take_snoc hr]
  simp
theorem mixA_0 (xs : List App) : dl om (mixA xs 0) = appsD xs := by
  simp only [mixA, List.take_zero, List.map_nil, List.nil_append, List.drop_zero, dl, List.map_map]
  rfl
theorem mixA_n (xs : List App) : dl om (mixA xs xs.length) = dl App.o xs := by
  simp only [mixA, List.take_length, List.drop_length, List.map_nil, List.append_nil, dl, List.map_map]
  rfl
theorem App.dp (x : App) : x.d' = x.p (.sl false 1 (dl iD x.a)) (.sl false 1 (dl iD x.h)) := rfl
theorem copyAppeals_fn (xs : List App) (hlen : xs.length ≤ 1048576) (hx : ∀ x ∈ xs, x.ok0) : Fn prog 95 [.sl false 6 (appsD xs)] (fun rs => rs = [.sl true 6 (dl App.o xs)]) := by
  have hC := cloneA_fn xs hlen
  refine Fn_of' (fn := f95) (by exact func95) c95 r95 (n := 34) (by rfl) (rv := [.tmp 2]) (by rfl) (by simp) ?_
  unfold m95
  simp only [dl_len, ↓wA, ↓wC, wB, frzBE, frzBS, Nat.reduceEqDiff, Nat.reduceAdd, Nat.reduceSub, reduceIte, reduceCtorEq, Nat.reduceBEq, Nat.reduceLT, decide_true]
  refine call_det hC rfl rfl ?_
  simp only [apps_noOwn, dl_len, ↓wA, ↓wC, wB, frzBE, frzBS, Nat.reduceEqDiff, Nat.reduceAdd, Nat.reduceSub, reduceIte, reduceCtorEq, Nat.reduceBEq, Nat.reduceLT, decide_true]
  refine exec_range xs.length (fun i : Nat => ⟨[(3, .own 0), (8, .d (.int .i64 xs.length)), (9, .d (.int .i64 i))], [.val (.sl true 6 (dl om (mixA xs i)))]⟩) (fun _ => True) ?_ trivial ?_ ?_
  · rw [mixA_0]; exact (weak_of _ rfl ⟨⟨rfl, rfl⟩, ⟨rfl, rfl⟩, ⟨rfl, rfl⟩, trivial⟩)
  · intro i hlt _ hd h0
    obtain ⟨x, hr⟩ := get_lt hlt
    have hxo := hx x (List.mem_of_getElem? hr)
    have h1 := cloneI_fn x.a hxo.1
    have h2 := cloneI_fn x.h hxo.2
    have hg := mixA_get hr
    have hom : om (false, x) = x.p (.sl false 1 (dl iD x.a)) (.sl false 1 (dl iD x.h)) := rfl
    have hgs : ∀ (y : D), ((dl om (mixA xs i)).setN i y).nth i = some y := fun y => by rw [setN_nth, if_pos rfl, dl_nth, hg]; rfl
    repeat' (first
        | (simp only [dl_len, mixA_len, hd, h0, dl_nth, Int.toNat_natCast, hg, hom, hgs, setN_setN, Option.map_some, onC_true, ints_noOwn, doff_p3, doff_p4, dget_p3, dget_p4, dset_p3, dset_p4, ↓wA, ↓wC, wB, frzBE, frzBS, Nat.reduceEqDiff, Nat.reduceAdd, Nat.reduceSub, reduceIte, reduceCtorEq, Nat.reduceBEq, Nat.reduceLT, decide_true])
        | (refine onJ_q ?_)
        | (refine call_det h1 rfl rfl ?_)
        | (refine call_det h2 rfl rfl ?_)
        | (refine onI_bare (by simp only [InR]; omega) ?_)
        | (refine execG_split (fun h => ?_) (fun h => ?_) <;> simp only [h])
        | (refine execC_split (fun h => ?_) (fun h => ?_) <;> (try simp only [h]))
        | (refine onPick_split (fun h => ?_) (fun h => ?_) <;> (try simp only [h])))
    have e : x.p (.sl true 1 (dl iD x.a)) (.sl true 1 (dl iD x.h)) = om (true, x) := rfl
    rw [e, dl_setN, mixA_set hr]
    exact ⟨i + 1, (weak_of _ rfl ⟨⟨rfl, rfl⟩, ⟨rfl, rfl⟩, ⟨rfl, rfl⟩, trivial⟩), by omega, by omega⟩
  · intro _ hd
    simp only [hd, ↓wA, ↓wC, wB, frzBE, frzBS, Nat.reduceEqDiff, Nat.reduceAdd, Nat.reduceSub, reduceIte, reduceCtorEq, Nat.reduceBEq, Nat.reduceLT, decide_true]
    rw [mixA_n]
end Go.Pe.Try

set_option maxRecDepth 100000
set_option maxHeartbeats 4000000
set_option linter.all false
namespace Go.Pe.Try
open Go.Proofs.Try
/-- the states that are told apart: decided as told. -/
def decS (b : Bool) : Int := if b then 2 else 3
def decL (xs : List App) (i : Nat) (x : App) (b : Bool) : List App := xs.set i { x with s := decS b }
def decOK (xs : List App) (x : App) : Bool := goodA xs && decide (x.s = 1)
/-- what is left of the list. -/
def decR (xs : List App) (id : Int) (b : Bool) : Option (List App) := match xs[(findA xs id).toNat]? with
  | some x => if (decide (0 ≤ findA xs id) && decOK xs x) = true then some (decL xs (findA xs id).toNat x b) else none
  | none => none
theorem decR_neg {xs : List App} {id : Int} {b : Bool} (h : decide (0 ≤ findA xs id) = false) : decR xs id b = none := by
  unfold decR
  rw [h]
  split <;> simp
theorem decR_at {xs : List App} {id : Int} {b : Bool} {i : Nat} {x : App} (h : findA xs id = (i : Int)) (hr : xs[i]? = some x) : decR xs id b = if decOK xs x = true then some (decL xs i x b) else none := by
  unfold decR
  rw [h, Int.toNat_natCast, hr]
  simp
/-- the results of a call that hands back appeals. -/
def listR (f : App → D) : Option (List App) → List D
  | some ys => [.sl true 6 (dl f ys), .bool true]
  | none => [.sl true 6 .nil, .bool false]
theorem decideAppeal_fn (xs : List App) (id : Int) (b : Bool) (hlen : xs.length ≤ 1048576) (hx : ∀ x ∈ xs, x.ok0) : Fn prog 50 [.sl false 6 (appsD xs), .int .i64 id, .bool b] (fun rs => rs = listR App.o (decR xs id b)) := by
  have hF := appealAt_fn xs id hlen
  have hG := areAppeals_fn xs hlen hx
  have hC := copyAppeals_fn xs hlen hx
  rcases find_cases xs id with ⟨hn, hn'⟩ | ⟨i, x, hi, hr, _⟩
  · rw [decR_neg hn']
    refine Fn_of' (fn := f50) (by exact func50) c50 r50 (n := 40) (by rfl) (rv := [.tmp 6, .tmp 7]) (by rfl) (by simp) ?_
    unfold m50
    repeat' (first
        | (simp only [hn, ↓wA, ↓wC, wB, frzBE, frzBS, Nat.reduceEqDiff, Nat.reduceAdd, Nat.reduceSub, reduceIte, reduceCtorEq, Nat.reduceBEq, Nat.reduceLT, decide_true])
        | (refine call_det (hF) rfl rfl ?_)
        | (refine callP_det (hF) rfl rfl ?_)
        | (refine call_det (hG) rfl rfl ?_)
        | (refine callP_det (hG) rfl rfl ?_)
        | (refine take_nil 6 ?_)
        | (refine execG_split (fun h => ?_) (fun h => ?_) <;> simp only [h])
        | (refine execC_split (fun h => ?_) (fun h => ?_) <;> (try simp only [h]))
        | (refine onPick_split (fun h => ?_) (fun h => ?_) <;> (try simp only [h])))
    all_goals rfl
  · rw [decR_at hi hr]
    rw [hi] at hF
    have h0 : (0 : Int) ≤ (i : Int) := by omega
    have hn : decide ((i : Int) < 0) = false := decide_eq_false (by omega)
    have hox : App.o x = x.p (.sl true 1 (dl iD x.a)) (.sl true 1 (dl iD x.h)) := rfl
    have hgs : ∀ (y : D), ((dl App.o xs).setN i y).nth i = some y := fun y => by rw [setN_nth, if_pos rfl, dl_nth, hr]; rfl
    unfold decOK
    cases hg : goodA xs with
    | false =>
      rw [hg] at hG
      refine Fn_of' (fn := f50) (by exact func50) c50 r50 (n := 40) (by rfl) (rv := [.tmp 6, .tmp 7]) (by rfl) (by simp) ?_
      unfold m50
      repeat' (first
          | (simp only [hn, ↓wA, ↓wC, wB, frzBE, frzBS, Nat.reduceEqDiff, Nat.reduceAdd, Nat.reduceSub, reduceIte, reduceCtorEq, Nat.reduceBEq, Nat.reduceLT, decide_true])
          | (refine call_det (hF) rfl rfl ?_)
          | (refine callP_det (hF) rfl rfl ?_)
          | (refine call_det (hG) rfl rfl ?_)
          | (refine callP_det (hG) rfl rfl ?_)
          | (refine take_nil 6 ?_)
          | (refine execG_split (fun h => ?_) (fun h => ?_) <;> simp only [h])
          | (refine execC_split (fun h => ?_) (fun h => ?_) <;> (try simp only [h]))
          | (refine onPick_split (fun h => ?_) (fun h => ?_) <;> (try simp only [h])))
      all_goals rfl
    | true =>
      rw [hg] at hG
      cases hs : decide (x.s = 1) with
      | false =>
        refine Fn_of' (fn := f50) (by exact func50) c50 r50 (n := 40) (by rfl) (rv := [.tmp 6, .tmp 7]) (by rfl) (by simp) ?_
        unfold m50
        repeat' (first
            | (simp only [hn, h0, dl_nth, Int.toNat_natCast, hr, Option.map_some, onC_true, ↓fa_app5, hs, ↓wA, ↓wC, wB, frzBE, frzBS, Nat.reduceEqDiff, Nat.reduceAdd, Nat.reduceSub, reduceIte, reduceCtorEq, Nat.reduceBEq, Nat.reduceLT, decide_true])
            | (refine call_det (hF) rfl rfl ?_)
            | (refine callP_det (hF) rfl rfl ?_)
            | (refine call_det (hG) rfl rfl ?_)
            | (refine callP_det (hG) rfl rfl ?_)
            | (refine take_nil 6 ?_)
            | (refine execG_split (fun h => ?_) (fun h => ?_) <;> simp only [h])
            | (refine execC_split (fun h => ?_) (fun h => ?_) <;> (try simp only [h]))
            | (refine onPick_split (fun h => ?_) (fun h => ?_) <;> (try simp only [h])))
        all_goals rfl
      | true =>
        have e : ∀ k : Int, App.p { i := x.i, q := x.q, d := x.d, a := x.a, h := x.h, s := k } (.sl true 1 (dl iD x.a)) (.sl true 1 (dl iD x.h)) = App.o { x with s := k } := fun k => rfl
        refine Fn_of' (fn := f50) (by exact func50) c50 r50 (n := 40) (by rfl) (rv := [.tmp 6, .tmp 7]) (by rfl) (by simp) ?_
        unfold m50
        repeat' (first
            | (simp only [hn, h0, dl_nth, Int.toNat_natCast, hr, Option.map_some, onC_true, ↓fa_app5, hs, hox, hgs, doff_p5, dget_p5, dset_p5, setN_setN, ↓wA, ↓wC, wB, frzBE, frzBS, Nat.reduceEqDiff, Nat.reduceAdd, Nat.reduceSub, reduceIte, reduceCtorEq, Nat.reduceBEq, Nat.reduceLT, decide_true])
            | (refine call_det (hF) rfl rfl ?_)
            | (refine callP_det (hF) rfl rfl ?_)
            | (refine call_det (hG) rfl rfl ?_)
            | (refine callP_det (hG) rfl rfl ?_)
            | (refine call_det hC rfl rfl ?_)
            | (refine execG_split (fun h => ?_) (fun h => ?_) <;> simp only [h])
            | (refine execC_split (fun h => ?_) (fun h => ?_) <;> (try simp only [h]))
            | (refine onPick_split (fun h => ?_) (fun h => ?_) <;> (try simp only [h])))
        all_goals
          rw [e, dl_setN]
          rfl
end Go.Pe.Try

set_option maxRecDepth 100000
set_option maxHeartbeats 4000000
set_option linter.all false
namespace Go.Pe.Try
open Go.Proofs.Try
theorem l1Own_fn (v : List Int) (hlen : v.length ≤ 1048576) : Fn prog 109 [.sl false 1 (dl iD v)] (fun rs => rs = [.sl true 1 (dl iD v)]) := by
  refine Fn_of' (fn := f109) (by exact func109) c109 r109 (n := 6) (by rfl) (rv := [.tmp 2]) (by rfl) (by simp) ?_
  unfold m109
  simp only [dl_len, ↓wA, ↓wC, wB, frzBE, frzBS, Nat.reduceEqDiff, Nat.reduceAdd, Nat.reduceSub, reduceIte, reduceCtorEq, Nat.reduceBEq, Nat.reduceLT, decide_true]
  refine onC_i ⟨by omega, by omega⟩ ?_
  simp only [↓wA, ↓wC, wB, frzBE, frzBS, Nat.reduceEqDiff, Nat.reduceAdd, Nat.reduceSub, reduceIte, reduceCtorEq, Nat.reduceBEq, Nat.reduceLT, decide_true]
theorem rd_p {o : List Ob} {K : SV → Prop} {x : App} {da dh : D} (h1 : da.noOwn = true) (h2 : dh.noOwn = true) (h3 : da.size = 1) (h4 : dh.size = 1) : stepRd o (some 6) (x.p da dh) K = K (.d (x.p da dh)) := by simp [App.p, stepRd, D.size, D.noOwn, h1, h2, h3, h4]
theorem isV_p {x : App} {da dh : D} : (x.p da dh).isV = true := rfl
theorem size_p {x : App} {da dh : D} (h3 : da.size = 1) (h4 : dh.size = 1) : (x.p da dh).size = 6 := by simp [App.p, D.size, h3, h4]
theorem noOwn_p {x : App} {da dh : D} (h1 : da.noOwn = true) (h2 : dh.noOwn = true) : (x.p da dh).noOwn = true := by simp [App.p, D.noOwn, h1, h2]
theorem fa_p {x : App} {da dh : D} {K : SV → Prop} : stepFa 3 3 (.d (.ptr (x.p da dh))) K = K (.d (.ptr da)) := by simp [App.p, stepFa, D.pre, D.nth, D.size]
theorem l24Own_fn (xs : List App) (hlen : xs.length ≤ 1048576) (hx : ∀ x ∈ xs, x.ok0) : Fn prog 97 [.sl false 6 (appsD xs)] (fun rs => rs = [.sl true 6 (appsD xs)]) := by
  refine Fn_ofg (ps := [[1, 1, 0, 1, 0, 0, 1, 0, 0, 1, 1, 1], [1, 1, 0, 1, 0, 0, 1, 0, 0, 1, 1, 1]]) (fn := f97) (by exact func97) c97 r97 (n := 30) (by rfl) (rv := [.tmp 2]) (by rfl) (by simp) ?_
  unfold m97
  simp only [ghAll, ghAt]
  simp only [↓wA, ↓wC, wB, frzBE, frzBS, Nat.reduceEqDiff, Nat.reduceAdd, Nat.reduceSub, reduceIte, reduceCtorEq, Nat.reduceBEq, Nat.reduceLT, decide_true]
  refine exec_range xs.length (fun i : Nat => ⟨[(0, .d (.sl false 6 (appsD xs))), (3, .own 0), (4, .d (.int .i64 i))], [.val (.sl true 6 (appsD (xs.take i)))]⟩) (fun _ => True) (weak_of _ rfl ⟨⟨rfl, rfl⟩, ⟨rfl, rfl⟩, ⟨rfl, rfl⟩, trivial⟩) trivial ?_ ?_
  · intro i hlt _ hd h0
    obtain ⟨x, hr⟩ := get_lt hlt
    have hxo := hx x (List.mem_of_getElem? hr)
    have h1 := l1Own_fn x.a hxo.1
    have h2 := l1Own_fn x.h hxo.2
    have hl : (xs.take i).length = i := by simp; omega
    repeat' (first
        | (simp only [dl_len, hd, h0, dl_nth, Int.toNat_natCast, hr, rd_p, size_p, isV_p, noOwn_p, Option.map_some, onC_true, App.dp, ints_noOwn, doff_p3, doff_p4, dget_p3, dget_p4, dset_p3, dset_p4, ↓wA, ↓wC, wB, frzBE, frzBS, Nat.reduceEqDiff, Nat.reduceAdd, Nat.reduceSub, reduceIte, reduceCtorEq, Nat.reduceBEq, Nat.reduceLT, decide_true])
        | (refine call_det h1 rfl rfl ?_)
        | (refine call_det h2 rfl rfl ?_)
        | (refine onI_bare (by simp only [InR]; omega) ?_)
        | (refine execG_split (fun h => ?_) (fun h => ?_) <;> simp only [h])
        | (refine execC_split (fun h => ?_) (fun h => ?_) <;> (try simp only [h]))
        | (refine onPick_split (fun h => ?_) (fun h => ?_) <;> (try simp only [h])))
    refine exec_gh1 (freeze 1 none [3] rfl rfl rfl) ?_
    simp only [obSet, dset_p3, D.unown, ints_unown, ↓wA, ↓wC, wB, frzBE, frzBS, Nat.reduceEqDiff, Nat.reduceAdd, Nat.reduceSub, reduceIte, reduceCtorEq, Nat.reduceBEq, Nat.reduceLT, decide_true]
    refine exec_gh1 (freeze 1 none [4] rfl rfl rfl) ?_
    simp only [obSet, dset_p4, D.unown, ints_unown, ↓wA, ↓wC, wB, frzBE, frzBS, Nat.reduceEqDiff, Nat.reduceAdd, Nat.reduceSub, reduceIte, reduceCtorEq, Nat.reduceBEq, Nat.reduceLT, decide_true]
    repeat' (first
        | (simp only [dl_len, hd, h0, onC_true, rd_p, size_p, isV_p, noOwn_p, ints_noOwn, ↓wA, ↓wC, wB, frzBE, frzBS, Nat.reduceEqDiff, Nat.reduceAdd, Nat.reduceSub, reduceIte, reduceCtorEq, Nat.reduceBEq, Nat.reduceLT, decide_true])
        | (refine onI_bare (by simp only [InR]; omega) ?_)
        | (refine execG_split (fun h => ?_) (fun h => ?_) <;> simp only [h])
        | (refine execC_split (fun h => ?_) (fun h => ?_) <;> (try simp only [h]))
        | (refine onPick_split (fun h => ?_) (fun h => ?_) <;> (try simp only [h])))
    refine onC_i (by simp) ?_
    refine onC_i (by rw [hl]; omega) ?_
    refine onI_bare (by simp only [InR]; omega) ?_
    have happ : (appsD (xs.take i)).app ((x.p (.sl false 1 (dl iD x.a)) (.sl false 1 (dl iD x.h))).cons .nil) = appsD (xs.take (i + 1)) := (app_one (f := App.d') (xs.take i) x).trans (by rw [take_snoc hr])
    rw [happ]
    exact ⟨i + 1, (weak_of _ rfl ⟨⟨rfl, rfl⟩, ⟨rfl, rfl⟩, ⟨rfl, rfl⟩, trivial⟩), by omega, by omega⟩
  · intro _ hd
    simp only [dl_len, hd, ↓wA, ↓wC, wB, frzBE, frzBS, Nat.reduceEqDiff, Nat.reduceAdd, Nat.reduceSub, reduceIte, reduceCtorEq, Nat.reduceBEq, Nat.reduceLT, decide_true]
    rw [List.take_length]
theorem specDecide_fn (xs : List App) (id : Int) (b : Bool) (hlen : xs.length ≤ 1048576) (hx : ∀ x ∈ xs, x.ok0) : Fn prog 56 [.sl false 6 (appsD xs), .int .i64 id, .bool b] (fun rs => rs = listR App.d' (decR xs id b)) := by
  have hF := l24Find_fn xs id hlen
  have hG := l24Good_fn xs hlen hx
  have hC := l24Own_fn xs hlen hx
  rcases find_cases xs id with ⟨hn, hn'⟩ | ⟨i, x, hi, hr, _⟩
  · rw [decR_neg hn']
    refine Fn_of' (fn := f56) (by exact func56) c56 r56 (n := 44) (by rfl) (rv := [.tmp 6, .tmp 7]) (by rfl) (by simp) ?_
    unfold m56
    repeat' (first
        | (simp only [hn, ↓wA, ↓wC, wB, frzBE, frzBS, Nat.reduceEqDiff, Nat.reduceAdd, Nat.reduceSub, reduceIte, reduceCtorEq, Nat.reduceBEq, Nat.reduceLT, decide_true])
        | (refine call_det (hF) rfl rfl ?_)
        | (refine callP_det (hF) rfl rfl ?_)
        | (refine call_det (hG) rfl rfl ?_)
        | (refine callP_det (hG) rfl rfl ?_)
        | (refine execG_split (fun h => ?_) (fun h => ?_) <;> simp only [h])
        | (refine execC_split (fun h => ?_) (fun h => ?_) <;> (try simp only [h]))
        | (refine onPick_split (fun h => ?_) (fun h => ?_) <;> (try simp only [h])))
    all_goals rfl
  · rw [decR_at hi hr]
    rw [hi] at hF
    have h0 : (0 : Int) ≤ (i : Int) := by omega
    have hn : decide ((i : Int) < 0) = false := decide_eq_false (by omega)
    have hgs : ∀ (y : D), ((appsD xs).setN i y).nth i = some y := fun y => by rw [setN_nth, if_pos rfl, dl_nth, hr]; rfl
    unfold decOK
    cases hg : goodA xs with
    | false =>
      rw [hg] at hG
      refine Fn_of' (fn := f56) (by exact func56) c56 r56 (n := 44) (by rfl) (rv := [.tmp 6, .tmp 7]) (by rfl) (by simp) ?_
      unfold m56
      repeat' (first
          | (simp only [hn, ↓wA, ↓wC, wB, frzBE, frzBS, Nat.reduceEqDiff, Nat.reduceAdd, Nat.reduceSub, reduceIte, reduceCtorEq, Nat.reduceBEq, Nat.reduceLT, decide_true])
          | (refine call_det (hF) rfl rfl ?_)
          | (refine callP_det (hF) rfl rfl ?_)
          | (refine call_det (hG) rfl rfl ?_)
          | (refine callP_det (hG) rfl rfl ?_)
          | (refine execG_split (fun h => ?_) (fun h => ?_) <;> simp only [h])
          | (refine execC_split (fun h => ?_) (fun h => ?_) <;> (try simp only [h]))
          | (refine onPick_split (fun h => ?_) (fun h => ?_) <;> (try simp only [h])))
      all_goals rfl
    | true =>
      rw [hg] at hG
      cases hs : decide (x.s = 1) with
      | false =>
        refine Fn_of' (fn := f56) (by exact func56) c56 r56 (n := 44) (by rfl) (rv := [.tmp 6, .tmp 7]) (by rfl) (by simp) ?_
        unfold m56
        repeat' (first
            | (simp only [hn, h0, dl_nth, Int.toNat_natCast, hr, Option.map_some, onC_true, ↓fa_app5, hs, ↓wA, ↓wC, wB, frzBE, frzBS, Nat.reduceEqDiff, Nat.reduceAdd, Nat.reduceSub, reduceIte, reduceCtorEq, Nat.reduceBEq, Nat.reduceLT, decide_true])
            | (refine call_det (hF) rfl rfl ?_)
            | (refine callP_det (hF) rfl rfl ?_)
            | (refine call_det (hG) rfl rfl ?_)
            | (refine callP_det (hG) rfl rfl ?_)
            | (refine execG_split (fun h => ?_) (fun h => ?_) <;> simp only [h])
            | (refine execC_split (fun h => ?_) (fun h => ?_) <;> (try simp only [h]))
            | (refine onPick_split (fun h => ?_) (fun h => ?_) <;> (try simp only [h])))
        all_goals rfl
      | true =>
        have e : ∀ k : Int, App.p { i := x.i, q := x.q, d := x.d, a := x.a, h := x.h, s := k } (.sl false 1 (dl iD x.a)) (.sl false 1 (dl iD x.h)) = App.d' { x with s := k } := fun k => rfl
        have hds : ∀ k : Int, dset [5] x.d' (.int .i64 k) = App.d' { x with s := k } := fun k => rfl
        have hdg : dget [5] x.d' = some (.int .i64 x.s) := rfl
        have hdo : ∀ y : App, doff [5] y.d' = 5 := fun y => by simp [App.d', doff, D.pre, D.nth, D.size]
        have hdg2 : ∀ y : App, dget [5] y.d' = some (.int .i64 y.s) := fun y => rfl
        have hds2 : ∀ (y : App) (k : Int), dset [5] y.d' (.int .i64 k) = App.d' { y with s := k } := fun y k => rfl
        refine Fn_of' (fn := f56) (by exact func56) c56 r56 (n := 44) (by rfl) (rv := [.tmp 6, .tmp 7]) (by rfl) (by simp) ?_
        unfold m56
        repeat' (first
            | (simp only [hn, h0, dl_len, dl_nth, Int.toNat_natCast, hr, Option.map_some, onC_true, ↓fa_app5, hs, hgs, apps_noOwn, App.noOwn, oa_size, oa_isV, ↓rd_app, hdo, hdg2, hds2, setN_setN, ↓wA, ↓wC, wB, frzBE, frzBS, Nat.reduceEqDiff, Nat.reduceAdd, Nat.reduceSub, reduceIte, reduceCtorEq, Nat.reduceBEq, Nat.reduceLT, decide_true])
            | (refine call_det (hF) rfl rfl ?_)
            | (refine callP_det (hF) rfl rfl ?_)
            | (refine call_det (hG) rfl rfl ?_)
            | (refine callP_det (hG) rfl rfl ?_)
            | (refine call_det hC rfl rfl ?_)
            | (refine execG_split (fun h => ?_) (fun h => ?_) <;> simp only [h])
            | (refine execC_split (fun h => ?_) (fun h => ?_) <;> (try simp only [h]))
            | (refine onPick_split (fun h => ?_) (fun h => ?_) <;> (try simp only [h])))
        all_goals
          rw [dl_setN]
          rfl
end Go.Pe.Try

set_option maxRecDepth 100000
set_option maxHeartbeats 4000000
set_option linter.all false
namespace Go.Pe.Try
open Go.Proofs.Try
def lapB (day : Int) (x : App) : Bool := decide (x.s = 0) && decide (60 < day - x.d)
def lap (day : Int) (x : App) : App := if lapB day x = true then { x with s := 4 } else x
def lapIds (day : Int) (xs : List App) : List Int := (xs.filter (lapB day)).map App.i
def lapM (day : Int) (xs : List App) (i : Nat) : List App := (xs.take i).map (lap day) ++ xs.drop i
theorem lapM_len (day : Int) (xs : List App) (i : Nat) : (lapM day xs i).length = xs.length := by simp [lapM]; omega
theorem lapM_get {day : Int} {xs : List App} {i : Nat} {x : App} (hr : xs[i]? = some x) : (lapM day xs i)[i]? = some x := by
  have hi := lt_of_get hr
  rw [lapM, List.getElem?_append_right (by simp; omega), List.length_map, List.length_take, Nat.min_eq_left (by omega), Nat.sub_self, List.getElem?_drop]
  exact hr
theorem lapM_set {day : Int} {xs : List App} {i : Nat} {x : App} (hr : xs[i]? = some x) : (lapM day xs i).set i (lap day x) = lapM day xs (i + 1) := by
  have hi := lt_of_get hr
  rw [lapM, List.set_append_right _ _ (by simp; omega), List.length_map, List.length_take, Nat.min_eq_left (by omega), Nat.sub_self, adrop_get hr, List.set_cons_zero, lapM, take_snoc hr]
  simp
theorem lapM_keep {day : Int} {xs : List App} {i : Nat} {x : App} (hr : xs[i]? = some x) (h : lapB day x = false) : lapM day xs i = lapM day xs (i + 1) := by
  rw [← lapM_set hr]
  have : lap day x = x := by simp [lap, h]
  rw [this]
  have h2 := lapM_get (day := day) hr
  have hi := lt_of_get h2
  rw [List.getElem?_eq_getElem hi] at h2
  injection h2 with h2
  rw [← h2, List.set_getElem_self]
theorem lapIds_up {day : Int} {xs : List App} {i : Nat} {x : App} (hr : xs[i]? = some x) : lapIds day (xs.take (i + 1)) = lapIds day (xs.take i) ++ (if lapB day x = true then [x.i] else []) := by
  rw [take_snoc hr, lapIds, lapIds, List.filter_append, List.map_append]
  congr 1
  by_cases h : lapB day x = true
  · simp [h]
  · simp [h]
theorem lapM_n (day : Int) (xs : List App) : lapM day xs xs.length = xs.map (lap day) := by simp [lapM]
def lapR (f : App → D) (xs : List App) (day : Int) : List D := if (goodA xs && within day 0 20000) = true then [.sl true 6 (dl f (xs.map (lap day))), .sl true 1 (dl iD (lapIds day xs)), .bool true] else [.sl true 6 .nil, .sl true 1 .nil, .bool false]
theorem lapse_fn (xs : List App) (day : Int) (hlen : xs.length ≤ 1048576) (hx : ∀ x ∈ xs, x.ok0) : Fn prog 36 [.sl false 6 (appsD xs), .int .i64 day] (fun rs => rs = lapR App.o xs day) := by
  have hG := areAppeals_fn xs hlen hx
  have hD := isDay_fn day
  have hC := copyAppeals_fn xs hlen hx
  unfold lapR
  cases hg : goodA xs with
  | false =>
    rw [hg] at hG
    refine Fn_ofg (ps := [[1, 1, 1, 1, 0, 1, 0, 0, 1, 1, 0, 0, 1, 0], [1, 1, 1, 1, 0, 1, 0, 0, 1, 1, 0, 0, 1, 0], [1, 1, 1, 1, 0, 1, 0, 0, 1, 1, 0, 0, 0], [1, 1, 1, 1, 0, 1, 0, 0, 1, 1, 0, 0, 0]]) (fn := f36) (by exact func36) c36 r36 (n := 50) (by rfl) (rv := [.tmp 4, .tmp 5, .tmp 6]) (by rfl) (by simp) ?_
    unfold m36
    simp only [ghAll, ghAt]
    repeat' (first
        | (simp only [↓wA, ↓wC, wB, frzBE, frzBS, Nat.reduceEqDiff, Nat.reduceAdd, Nat.reduceSub, reduceIte, reduceCtorEq, Nat.reduceBEq, Nat.reduceLT, decide_true])
        | (refine call_det (hG) rfl rfl ?_)
        | (refine callP_det (hG) rfl rfl ?_)
        | (refine call_det (hD) rfl rfl ?_)
        | (refine callP_det (hD) rfl rfl ?_)
        | (refine execG_split (fun h => ?_) (fun h => ?_) <;> simp only [h])
        | (refine execC_split (fun h => ?_) (fun h => ?_) <;> (try simp only [h]))
        | (refine onPick_split (fun h => ?_) (fun h => ?_) <;> (try simp only [h])))
    refine take_nil 6 ?_
    try simp only [↓wA, ↓wC, wB, frzBE, frzBS, Nat.reduceEqDiff, Nat.reduceAdd, Nat.reduceSub, reduceIte, reduceCtorEq, Nat.reduceBEq, Nat.reduceLT, decide_true]
    refine take_nil 1 ?_
    simp
  | true =>
    rw [hg] at hG
    cases hdy : within day 0 20000 with
    | false =>
      rw [hdy] at hD
      refine Fn_ofg (ps := [[1, 1, 1, 1, 0, 1, 0, 0, 1, 1, 0, 0, 1, 0], [1, 1, 1, 1, 0, 1, 0, 0, 1, 1, 0, 0, 1, 0], [1, 1, 1, 1, 0, 1, 0, 0, 1, 1, 0, 0, 0], [1, 1, 1, 1, 0, 1, 0, 0, 1, 1, 0, 0, 0]]) (fn := f36) (by exact func36) c36 r36 (n := 50) (by rfl) (rv := [.tmp 4, .tmp 5, .tmp 6]) (by rfl) (by simp) ?_
      unfold m36
      simp only [ghAll, ghAt]
      repeat' (first
          | (simp only [↓wA, ↓wC, wB, frzBE, frzBS, Nat.reduceEqDiff, Nat.reduceAdd, Nat.reduceSub, reduceIte, reduceCtorEq, Nat.reduceBEq, Nat.reduceLT, decide_true])
          | (refine call_det (hG) rfl rfl ?_)
          | (refine callP_det (hG) rfl rfl ?_)
          | (refine call_det (hD) rfl rfl ?_)
          | (refine callP_det (hD) rfl rfl ?_)
          | (refine execG_split (fun h => ?_) (fun h => ?_) <;> simp only [h])
          | (refine execC_split (fun h => ?_) (fun h => ?_) <;> (try simp only [h]))
          | (refine onPick_split (fun h => ?_) (fun h => ?_) <;> (try simp only [h])))
      refine take_nil 6 ?_
      try simp only [↓wA, ↓wC, wB, frzBE, frzBS, Nat.reduceEqDiff, Nat.reduceAdd, Nat.reduceSub, reduceIte, reduceCtorEq, Nat.reduceBEq, Nat.reduceLT, decide_true]
      refine take_nil 1 ?_
      simp
    | true =>
      rw [hdy] at hD
      have hdb := within_iff.1 hdy
      have hok := goodA_ok hg
      refine Fn_ofg (ps := [[1, 1, 1, 1, 0, 1, 0, 0, 1, 1, 0, 0, 1, 0], [1, 1, 1, 1, 0, 1, 0, 0, 1, 1, 0, 0, 1, 0], [1, 1, 1, 1, 0, 1, 0, 0, 1, 1, 0, 0, 0], [1, 1, 1, 1, 0, 1, 0, 0, 1, 1, 0, 0, 0]]) (fn := f36) (by exact func36) c36 r36 (n := 50) (by rfl) (rv := [.tmp 4, .tmp 5, .tmp 6]) (by rfl) (by simp) ?_
      unfold m36
      simp only [ghAll, ghAt]
      repeat' (first
          | (simp only [dl_len, ↓wA, ↓wC, wB, frzBE, frzBS, Nat.reduceEqDiff, Nat.reduceAdd, Nat.reduceSub, reduceIte, reduceCtorEq, Nat.reduceBEq, Nat.reduceLT, decide_true])
          | (refine call_det (hG) rfl rfl ?_)
          | (refine callP_det (hG) rfl rfl ?_)
          | (refine call_det (hD) rfl rfl ?_)
          | (refine callP_det (hD) rfl rfl ?_)
          | (refine call_det hC rfl rfl ?_)
          | (refine execG_split (fun h => ?_) (fun h => ?_) <;> simp only [h])
          | (refine execC_split (fun h => ?_) (fun h => ?_) <;> (try simp only [h]))
          | (refine onPick_split (fun h => ?_) (fun h => ?_) <;> (try simp only [h])))
      refine exec_rangeN [(8, 1)] xs.length (fun i : Nat => ⟨[(1, .d (.int .i64 day)), (7, .own 0), (8, .own 1), (21, .own 0), (22, .d (.int .i64 xs.length)), (23, .d (.int .i64 i))], [.val (.sl true 6 (dl App.o (lapM day xs i))), .val (.sl true 1 (dl iD (lapIds day (xs.take i))))]⟩) (fun _ => True) ⟨rfl, trivial⟩ ?_ trivial ?_ ?_
      · exact (weak_of _ rfl ⟨⟨rfl, rfl⟩, ⟨rfl, rfl⟩, ⟨rfl, rfl⟩, ⟨rfl, rfl⟩, ⟨rfl, rfl⟩, ⟨rfl, rfl⟩, trivial⟩)
      · intro i hlt _ hd h0
        obtain ⟨x, hr⟩ := get_lt hlt
        have hL := lapM_get (day := day) hr
        have hb := (okA_parts (hok.2.2 x (List.mem_of_getElem? hr))).2.2.1
        have hox : App.o x = x.p (.sl true 1 (dl iD x.a)) (.sl true 1 (dl iD x.h)) := rfl
        have hgs : ∀ (y : D), ((dl App.o (lapM day xs i)).setN i y).nth i = some y := fun y => by rw [setN_nth, if_pos rfl, dl_nth, hL]; rfl
        repeat' (first
            | (simp only [hd, h0, ↓wA, ↓wC, wB, frzBE, frzBS, Nat.reduceEqDiff, Nat.reduceAdd, Nat.reduceSub, reduceIte, reduceCtorEq, Nat.reduceBEq, Nat.reduceLT, decide_true])
            | (refine execG_split (fun h => ?_) (fun h => ?_) <;> simp only [h])
            | (refine execC_split (fun h => ?_) (fun h => ?_) <;> (try simp only [h]))
            | (refine onPick_split (fun h => ?_) (fun h => ?_) <;> (try simp only [h])))
        refine exec_gh _ (unlink 0 (some i) [3] (es := 1) (xs := dl iD x.a) rfl (by simp only [obPart, dl_nth, hL, Option.map_some, hox, Option.bind_some, dget_p3])) fun v1 => ?_
        simp only [obSet, dl_nth, hL, Option.map_some, Option.getD_some, hox, dset_p3, ↓wA, ↓wC, wB, frzBE, frzBS, Nat.reduceEqDiff, Nat.reduceAdd, Nat.reduceSub, reduceIte, reduceCtorEq, Nat.reduceBEq, Nat.reduceLT, decide_true]
        refine exec_gh _ (unlink 0 (some i) [4] (es := 1) (xs := dl iD x.h) rfl (by simp only [obPart, hgs, Option.bind_some, dget_p4])) fun v2 => ?_
        simp only [obSet, hgs, Option.getD_some, dset_p4, setN_setN, ↓wA, ↓wC, wB, frzBE, frzBS, Nat.reduceEqDiff, Nat.reduceAdd, Nat.reduceSub, reduceIte, reduceCtorEq, Nat.reduceBEq, Nat.reduceLT, decide_true]
        have hln : ∀ q v, (D.lnk q v).noOwn = true := fun _ _ => rfl
        have hls : ∀ q v, (D.lnk q v).size = 1 := fun _ _ => rfl
        repeat' (first
            | (simp only [h0, Int.toNat_natCast, hgs, onC_true, rd_p, size_p, isV_p, noOwn_p, hln, hls, ↓wA, ↓wC, wB, frzBE, frzBS, Nat.reduceEqDiff, Nat.reduceAdd, Nat.reduceSub, reduceIte, reduceCtorEq, Nat.reduceBEq, Nat.reduceLT, decide_true])
            | (refine execG_split (fun h => ?_) (fun h => ?_) <;> simp only [h])
            | (refine execC_split (fun h => ?_) (fun h => ?_) <;> (try simp only [h]))
            | (refine onPick_split (fun h => ?_) (fun h => ?_) <;> (try simp only [h])))
        refine exec_gh1 (relink 0 3 2 (some i) [3] rfl (by simp only [obPart, hgs, Option.bind_some, dget_p3]) rfl rfl (by decide) rfl) ?_
        simp only [obSet, hgs, Option.getD_some, dset_p3, setN_setN, ↓wA, ↓wC, wB, frzBE, frzBS, Nat.reduceEqDiff, Nat.reduceAdd, Nat.reduceSub, reduceIte, reduceCtorEq, Nat.reduceBEq, Nat.reduceLT, decide_true]
        refine exec_gh1 (relink 0 5 4 (some i) [4] rfl (by simp only [obPart, hgs, Option.bind_some, dget_p4]) rfl rfl (by decide) rfl) ?_
        simp only [obSet, hgs, Option.getD_some, dset_p4, setN_setN, ↓wA, ↓wC, wB, frzBE, frzBS, Nat.reduceEqDiff, Nat.reduceAdd, Nat.reduceSub, reduceIte, reduceCtorEq, Nat.reduceBEq, Nat.reduceLT, decide_true]
        have hids := lapIds_up (day := day) hr
        have hk : App.p { i := x.i, q := x.q, d := x.d, a := x.a, h := x.h, s := 4 } (.sl true 1 (dl iD x.a)) (.sl true 1 (dl iD x.h)) = App.o { x with s := 4 } := rfl
        have hil : (lapIds day (xs.take i)).length ≤ 10 := by
          simp only [lapIds, List.length_map]
          exact Nat.le_trans (List.length_filter_le _ _) (by simp; omega)
        cases hB : lapB day x with
        | false =>
          have e1 : lap day x = x := by simp [lap, hB]
          have e2 : (dl App.o (lapM day xs i)).setN i (x.p (.sl true 1 (dl iD x.a)) (.sl true 1 (dl iD x.h))) = dl App.o (lapM day xs (i + 1)) := by
            rw [← hox, dl_setN, ← lapM_set hr, e1]
          rw [hB] at hids
          simp only [Bool.false_eq_true, if_false, List.append_nil] at hids
          rw [← hids, e2]
          rw [lapB, Bool.and_eq_false_iff] at hB
          cases hs : decide (x.s = 0) with
          | false =>
            repeat' (first
                | (simp only [h0, hs, onC_true, doff_p5, dget_p5, ↓wA, ↓wC, wB, frzBE, frzBS, Nat.reduceEqDiff, Nat.reduceAdd, Nat.reduceSub, reduceIte, reduceCtorEq, Nat.reduceBEq, Nat.reduceLT, decide_true])
                | (refine onI_bare (by simp only [InR]; omega) ?_)
                | (refine execG_split (fun h => ?_) (fun h => ?_) <;> simp only [h])
                | (refine execC_split (fun h => ?_) (fun h => ?_) <;> (try simp only [h]))
                | (refine onPick_split (fun h => ?_) (fun h => ?_) <;> (try simp only [h])))
            exact ⟨i + 1, (weak_of _ rfl ⟨⟨rfl, rfl⟩, ⟨rfl, rfl⟩, ⟨rfl, rfl⟩, ⟨rfl, rfl⟩, ⟨rfl, rfl⟩, ⟨rfl, rfl⟩, trivial⟩), by omega, by omega⟩
          | true =>
            have h6 : decide (60 < day - x.d) = false := by
              rcases hB with h | h
              · rw [hs] at h; cases h
              · exact h
            repeat' (first
                | (simp only [h0, hs, h6, onC_true, doff_p5, dget_p5, doff_p2, dget_p2, ↓wA, ↓wC, wB, frzBE, frzBS, Nat.reduceEqDiff, Nat.reduceAdd, Nat.reduceSub, reduceIte, reduceCtorEq, Nat.reduceBEq, Nat.reduceLT, decide_true])
                | (refine onI_bare (by simp only [InR]; omega) ?_)
                | (refine execG_split (fun h => ?_) (fun h => ?_) <;> simp only [h])
                | (refine execC_split (fun h => ?_) (fun h => ?_) <;> (try simp only [h]))
                | (refine onPick_split (fun h => ?_) (fun h => ?_) <;> (try simp only [h])))
            exact ⟨i + 1, (weak_of _ rfl ⟨⟨rfl, rfl⟩, ⟨rfl, rfl⟩, ⟨rfl, rfl⟩, ⟨rfl, rfl⟩, ⟨rfl, rfl⟩, ⟨rfl, rfl⟩, trivial⟩), by omega, by omega⟩
        | true =>
          have e1 : lap day x = { x with s := 4 } := by simp [lap, hB]
          have e2 : (dl App.o (lapM day xs i)).setN i (App.o { x with s := 4 }) = dl App.o (lapM day xs (i + 1)) := by
            rw [dl_setN, ← lapM_set hr, e1]
          rw [hB] at hids
          simp only [if_true] at hids
          rw [lapB, Bool.and_eq_true] at hB
          have hs := hB.1
          have h6 := hB.2
          repeat' (first
              | (simp only [h0, hs, h6, Int.toNat_natCast, hgs, onC_true, doff_p0, dget_p0, doff_p5, dget_p5, dset_p5, doff_p2, dget_p2, setN_setN, hk, e2, dl_len, app_int, ↓wA, ↓wC, wB, frzBE, frzBS, Nat.reduceEqDiff, Nat.reduceAdd, Nat.reduceSub, reduceIte, reduceCtorEq, Nat.reduceBEq, Nat.reduceLT, decide_true])
              | (refine onI_bare (by simp only [InR]; omega) ?_)
              | (refine execG_split (fun h => ?_) (fun h => ?_) <;> simp only [h])
              | (refine execC_split (fun h => ?_) (fun h => ?_) <;> (try simp only [h]))
              | (refine onPick_split (fun h => ?_) (fun h => ?_) <;> (try simp only [h])))
          refine onC_i (by simp) ?_
          refine onC_i (by omega) ?_
          refine onI_bare (by simp only [InR]; omega) ?_
          rw [← hids]
          exact ⟨i + 1, (weak_of _ rfl ⟨⟨rfl, rfl⟩, ⟨rfl, rfl⟩, ⟨rfl, rfl⟩, ⟨rfl, rfl⟩, ⟨rfl, rfl⟩, ⟨rfl, rfl⟩, trivial⟩), by omega, by omega⟩
      · intro _ hd
        simp only [hd, ↓wA, ↓wC, wB, frzBE, frzBS, Nat.reduceEqDiff, Nat.reduceAdd, Nat.reduceSub, reduceIte, reduceCtorEq, Nat.reduceBEq, Nat.reduceLT, decide_true]
        rw [lapM_n, List.take_length]
end Go.Pe.Try

set_option maxRecDepth 100000
set_option maxHeartbeats 4000000
set_option linter.all false
namespace Go.Pe.Try
open Go.Proofs.Try
theorem specLapse_fn (xs : List App) (day : Int) (hlen : xs.length ≤ 1048576) (hx : ∀ x ∈ xs, x.ok0) : Fn prog 37 [.sl false 6 (appsD xs), .int .i64 day] (fun rs => rs = lapR App.d' xs day) := by
  have hG := l24Good_fn xs hlen hx
  have hD := l2Day_fn day
  have hC := l24Own_fn xs hlen hx
  unfold lapR
  cases hg : goodA xs with
  | false =>
    rw [hg] at hG
    refine Fn_of' (fn := f37) (by exact func37) c37 r37 (n := 56) (by rfl) (rv := [.tmp 4, .tmp 5, .tmp 6]) (by rfl) (by simp) ?_
    unfold m37
    repeat' (first
        | (simp only [↓wA, ↓wC, wB, frzBE, frzBS, Nat.reduceEqDiff, Nat.reduceAdd, Nat.reduceSub, reduceIte, reduceCtorEq, Nat.reduceBEq, Nat.reduceLT, decide_true])
        | (refine call_det (hG) rfl rfl ?_)
        | (refine callP_det (hG) rfl rfl ?_)
        | (refine call_det (hD) rfl rfl ?_)
        | (refine callP_det (hD) rfl rfl ?_)
        | (refine execG_split (fun h => ?_) (fun h => ?_) <;> simp only [h])
        | (refine execC_split (fun h => ?_) (fun h => ?_) <;> (try simp only [h]))
        | (refine onPick_split (fun h => ?_) (fun h => ?_) <;> (try simp only [h])))
    all_goals rfl
  | true =>
    rw [hg] at hG
    cases hdy : within day 0 20000 with
    | false =>
      rw [hdy] at hD
      refine Fn_of' (fn := f37) (by exact func37) c37 r37 (n := 56) (by rfl) (rv := [.tmp 4, .tmp 5, .tmp 6]) (by rfl) (by simp) ?_
      unfold m37
      repeat' (first
          | (simp only [↓wA, ↓wC, wB, frzBE, frzBS, Nat.reduceEqDiff, Nat.reduceAdd, Nat.reduceSub, reduceIte, reduceCtorEq, Nat.reduceBEq, Nat.reduceLT, decide_true])
          | (refine call_det (hG) rfl rfl ?_)
          | (refine callP_det (hG) rfl rfl ?_)
          | (refine call_det (hD) rfl rfl ?_)
          | (refine callP_det (hD) rfl rfl ?_)
          | (refine execG_split (fun h => ?_) (fun h => ?_) <;> simp only [h])
          | (refine execC_split (fun h => ?_) (fun h => ?_) <;> (try simp only [h]))
          | (refine onPick_split (fun h => ?_) (fun h => ?_) <;> (try simp only [h])))
      all_goals rfl
    | true =>
      rw [hdy] at hD
      have hdb := within_iff.1 hdy
      have hok := goodA_ok hg
      have hdo5 : ∀ y : App, doff [5] y.d' = 5 := fun y => by simp [App.d', doff, D.pre, D.nth, D.size]
      have hdo2 : ∀ y : App, doff [2] y.d' = 2 := fun y => by simp [App.d', doff, D.pre, D.nth, D.size]
      have hdo0 : ∀ y : App, doff [0] y.d' = 0 := fun y => by simp [App.d', doff, D.pre, D.nth, D.size]
      have hdg5 : ∀ y : App, dget [5] y.d' = some (.int .i64 y.s) := fun y => rfl
      have hdg2 : ∀ y : App, dget [2] y.d' = some (.int .i64 y.d) := fun y => rfl
      have hdg0 : ∀ y : App, dget [0] y.d' = some (.int .i64 y.i) := fun y => rfl
      have hds5 : ∀ (y : App) (k : Int), dset [5] y.d' (.int .i64 k) = App.d' { y with s := k } := fun y k => rfl
      refine Fn_of' (fn := f37) (by exact func37) c37 r37 (n := 56) (by rfl) (rv := [.tmp 4, .tmp 5, .tmp 6]) (by rfl) (by simp) ?_
      unfold m37
      repeat' (first
          | (simp only [dl_len, ↓wA, ↓wC, wB, frzBE, frzBS, Nat.reduceEqDiff, Nat.reduceAdd, Nat.reduceSub, reduceIte, reduceCtorEq, Nat.reduceBEq, Nat.reduceLT, decide_true])
          | (refine call_det (hG) rfl rfl ?_)
          | (refine callP_det (hG) rfl rfl ?_)
          | (refine call_det (hD) rfl rfl ?_)
          | (refine callP_det (hD) rfl rfl ?_)
          | (refine call_det hC rfl rfl ?_)
          | (refine execG_split (fun h => ?_) (fun h => ?_) <;> simp only [h])
          | (refine execC_split (fun h => ?_) (fun h => ?_) <;> (try simp only [h]))
          | (refine onPick_split (fun h => ?_) (fun h => ?_) <;> (try simp only [h])))
      refine exec_range xs.length (fun i : Nat => ⟨[(1, .d (.int .i64 day)), (7, .own 0), (8, .own 1), (9, .d (.int .i64 i))], [.val (.sl true 1 (dl iD (lapIds day (xs.take i)))), .val (.sl true 6 (dl App.d' (lapM day xs i)))]⟩) (fun _ => True) (weak_of _ rfl ⟨⟨rfl, rfl⟩, ⟨rfl, rfl⟩, ⟨rfl, rfl⟩, ⟨rfl, rfl⟩, trivial⟩) trivial ?_ ?_
      · intro i hlt _ hd h0
        obtain ⟨x, hr⟩ := get_lt hlt
        have hL := lapM_get (day := day) hr
        have hb := (okA_parts (hok.2.2 x (List.mem_of_getElem? hr))).2.2.1
        have hgs : ∀ (y : D), ((dl App.d' (lapM day xs i)).setN i y).nth i = some y := fun y => by rw [setN_nth, if_pos rfl, dl_nth, hL]; rfl
        have hlm := lapM_len day xs i
        have hids := lapIds_up (day := day) hr
        have hil : (lapIds day (xs.take i)).length ≤ 10 := by
          simp only [lapIds, List.length_map]
          exact Nat.le_trans (List.length_filter_le _ _) (by simp; omega)
        cases hB : lapB day x with
        | false =>
          rw [hB] at hids
          simp only [Bool.false_eq_true, if_false, List.append_nil] at hids
          have hkp := lapM_keep hr hB
          rw [lapB, Bool.and_eq_false_iff] at hB
          cases hs : decide (x.s = 0) with
          | false =>
            repeat' (first
                | (simp only [dl_len, hlm, hd, h0, dl_nth, hL, Int.toNat_natCast, Option.map_some, onC_true, apps_noOwn, App.noOwn, oa_size, oa_isV, ↓rd_app, hdo5, hdg5, hs, ↓wA, ↓wC, wB, frzBE, frzBS, Nat.reduceEqDiff, Nat.reduceAdd, Nat.reduceSub, reduceIte, reduceCtorEq, Nat.reduceBEq, Nat.reduceLT, decide_true])
                | (refine onI_bare (by simp only [InR]; omega) ?_)
                | (refine execG_split (fun h => ?_) (fun h => ?_) <;> simp only [h])
                | (refine execC_split (fun h => ?_) (fun h => ?_) <;> (try simp only [h]))
                | (refine onPick_split (fun h => ?_) (fun h => ?_) <;> (try simp only [h])))
            refine ⟨i + 1, ?_, by omega, by omega⟩
            rw [hids, ← hkp]
            exact (weak_of _ rfl ⟨⟨rfl, rfl⟩, ⟨rfl, rfl⟩, ⟨rfl, rfl⟩, ⟨rfl, rfl⟩, trivial⟩)
          | true =>
            have h6 : decide (60 < day - x.d) = false := by
              rcases hB with h | h
              · rw [hs] at h; cases h
              · exact h
            repeat' (first
                | (simp only [dl_len, hlm, hd, h0, dl_nth, hL, Int.toNat_natCast, Option.map_some, onC_true, apps_noOwn, App.noOwn, oa_size, oa_isV, ↓rd_app, hdo5, hdg5, hdo2, hdg2, hs, h6, ↓wA, ↓wC, wB, frzBE, frzBS, Nat.reduceEqDiff, Nat.reduceAdd, Nat.reduceSub, reduceIte, reduceCtorEq, Nat.reduceBEq, Nat.reduceLT, decide_true])
                | (refine onI_bare (by simp only [InR]; omega) ?_)
                | (refine execG_split (fun h => ?_) (fun h => ?_) <;> simp only [h])
                | (refine execC_split (fun h => ?_) (fun h => ?_) <;> (try simp only [h]))
                | (refine onPick_split (fun h => ?_) (fun h => ?_) <;> (try simp only [h])))
            refine ⟨i + 1, ?_, by omega, by omega⟩
            rw [hids, ← hkp]
            exact (weak_of _ rfl ⟨⟨rfl, rfl⟩, ⟨rfl, rfl⟩, ⟨rfl, rfl⟩, ⟨rfl, rfl⟩, trivial⟩)
        | true =>
          have e1 : lap day x = { x with s := 4 } := by simp [lap, hB]
          have e2 : (dl App.d' (lapM day xs i)).setN i (App.d' { x with s := 4 }) = dl App.d' (lapM day xs (i + 1)) := by
            rw [dl_setN, ← lapM_set hr, e1]
          rw [hB] at hids
          simp only [if_true] at hids
          rw [lapB, Bool.and_eq_true] at hB
          have hs := hB.1
          have h6 := hB.2
          repeat' (first
              | (simp only [dl_len, hlm, hd, h0, dl_nth, hL, hgs, Int.toNat_natCast, Option.map_some, onC_true, apps_noOwn, App.noOwn, oa_size, oa_isV, ↓rd_app, hdo5, hdg5, hds5, hdo2, hdg2, hdo0, hdg0, hs, h6, setN_setN, e2, app_int, ↓wA, ↓wC, wB, frzBE, frzBS, Nat.reduceEqDiff, Nat.reduceAdd, Nat.reduceSub, reduceIte, reduceCtorEq, Nat.reduceBEq, Nat.reduceLT, decide_true])
              | (refine onI_bare (by simp only [InR]; omega) ?_)
              | (refine execG_split (fun h => ?_) (fun h => ?_) <;> simp only [h])
              | (refine execC_split (fun h => ?_) (fun h => ?_) <;> (try simp only [h]))
              | (refine onPick_split (fun h => ?_) (fun h => ?_) <;> (try simp only [h])))
          refine onC_i (by simp) ?_
          refine onC_i (by omega) ?_
          refine onI_bare (by simp only [InR]; omega) ?_
          rw [← hids]
          exact ⟨i + 1, (weak_of _ rfl ⟨⟨rfl, rfl⟩, ⟨rfl, rfl⟩, ⟨rfl, rfl⟩, ⟨rfl, rfl⟩, trivial⟩), by omega, by omega⟩
      · intro _ hd
        simp only [dl_len, lapM_len, hd, ↓wA, ↓wC, wB, frzBE, frzBS, Nat.reduceEqDiff, Nat.reduceAdd, Nat.reduceSub, reduceIte, reduceCtorEq, Nat.reduceBEq, Nat.reduceLT, decide_true]
        rw [lapM_n, List.take_length]
end Go.Pe.Try

set_option maxRecDepth 100000
set_option maxHeartbeats 4000000
set_option linter.all false
namespace Go.Pe.Try
open Go.Proofs.Try
def newI (xs : List App) : Int := match xs[xs.length - 1]? with
  | some l => l.i + 1
  | none => 1
def newS (a : List Int) : Int := if a.length = 0 then 1 else 0
def newA (xs : List App) (q d : Int) (a : List Int) : App := { i := newI xs, q := q, d := d, a := a, h := [], s := newS a }
def newOK (xs : List App) (q d : Int) (a : List Int) : Bool := goodA xs && goodA (xs ++ [newA xs q d a])
def newR (f : App → D) (xs : List App) (q d : Int) (a : List Int) : List D := if newOK xs q d a = true then [.sl true 6 (dl f (xs ++ [newA xs q d a])), .int .i64 (newI xs), .bool true] else [.sl true 6 .nil, .int .i64 0, .bool false]
theorem stepA_app {xs : List App} {y : App} {j : Nat} (h : j < xs.length) : stepA (xs ++ [y]) j = stepA xs j := by
  have e : (xs ++ [y])[j]? = xs[j]? := List.getElem?_append_left h
  have e2 : (xs ++ [y]).take j = xs.take j := List.take_append_of_le_length (by omega)
  have e3 : ∀ x, ltA (xs ++ [y]) j x = ltA xs j x := by
    intro x
    cases j with
    | zero => rfl
    | succ k =>
      have : (xs ++ [y])[k]? = xs[k]? := List.getElem?_append_left (by omega)
      simp only [ltA, this]
  simp only [stepA, e, e2, e3]
theorem goodA_app {xs : List App} {y : App} (h : goodA xs = false) : goodA (xs ++ [y]) = false := by
  cases h2 : goodA (xs ++ [y]) with
  | false => rfl
  | true =>
    simp only [goodA, Bool.and_eq_true, List.all_eq_true, List.mem_range, decide_eq_true_eq, List.length_append, List.length_singleton] at h2
    have : goodA xs = true := by
      simp only [goodA, Bool.and_eq_true, List.all_eq_true, List.mem_range, decide_eq_true_eq]
      refine ⟨by omega, fun j hj => ?_⟩
      rw [← stepA_app (y := y) hj]
      exact h2.2 j (by omega)
    rw [this] at h
    cases h
theorem newS_lt {a : List Int} {b : Bool} (h : decide ((a.length : Int) = 0) = b) : newS a = if b = true then 1 else 0 := by
  subst h
  unfold newS
  by_cases h : a.length = 0
  · simp [h]
  · rw [if_neg h, if_neg (by simpa using h)]
theorem lastA {xs : List App} (h : 0 < xs.length) : ∃ l, xs[xs.length - 1]? = some l ∧ (0 : Int) ≤ (xs.length : Int) - 1 ∧ xs[((xs.length : Int) - 1).toNat]? = some l ∧ newI xs = l.i + 1 := by
  obtain ⟨l, hl⟩ := get_lt (show xs.length - 1 < xs.length by omega)
  refine ⟨l, hl, by omega, ?_, ?_⟩
  · rw [show ((xs.length : Int) - 1).toNat = xs.length - 1 by omega]; exact hl
  · rw [newI, hl]
theorem specNew_fn (xs : List App) (q d : Int) (a : List Int) (hlen : xs.length ≤ 1048576) (hx : ∀ x ∈ xs, x.ok0) (ha : a.length ≤ 1048576) : Fn prog 54 [.sl false 6 (appsD xs), .int .i64 q, .int .i64 d, .sl false 1 (dl iD a)] (fun rs => rs = newR App.d' xs q d a) := by
  have hO : Fn prog 109 [.sl false 1 (dl iD a)] (fun rs => rs = [.sl false 1 (dl iD a)]) := by
    have h := Fn_unown (l1Own_fn a ha)
    simpa [D.unown, ints_unown] using h
  have hC := l24Own_fn xs hlen hx
  have hG : ∀ y : App, y.ok0 → Fn prog 63 [.sl false 6 (appsD (xs ++ [y]))] (fun rs => rs = [.bool (goodA (xs ++ [y]))]) := fun y hy => l24Good_big _ (by simp; omega) (fun x hx' => by
    rcases List.mem_append.1 hx' with h | h
    · exact hx x h
    · rw [List.mem_singleton.1 h]; exact hy)
  have hraw : D.st (.cons (.int .i64 1) (.cons (.int .i64 q) (.cons (.int .i64 d) (.cons (.sl false 1 (dl iD a)) (.cons (.sl true 1 .nil) (.cons (.int .i64 0) .nil)))))) = App.p { i := 1, q := q, d := d, a := a, h := [], s := 0 } (.sl false 1 (dl iD a)) (.sl true 1 .nil) := rfl
  have hdp4 : ∀ (y : App) (u v w : D), dset [4] (y.p u v) w = y.p u w := fun _ _ _ _ => rfl
  have hdo4 : ∀ (y : App) (u v : D), dget [4] (y.p u v) = some v := fun _ _ _ => rfl
  have hy : ∀ m s : Int, App.p { i := m, q := q, d := d, a := a, h := [], s := s } (.sl false 1 (dl iD a)) (.sl false 1 .nil) = App.d' { i := m, q := q, d := d, a := a, h := [], s := s } := fun _ _ => rfl
  have happ : ∀ y : App, (appsD xs).app (D.cons y.d' .nil) = appsD (xs ++ [y]) := fun y => app_one (f := App.d') xs y
  have hv : ∀ y : App, ∀ u v : D, (y.p u v).isV = true := fun _ _ _ => rfl
  have hz : ∀ y : App, (y.p (.sl false 1 (dl iD a)) (.sl true 1 .nil)).size = 6 := fun _ => rfl
  have hne : ∀ k : Nat, (appsD xs).unown = appsD xs := fun _ => apps_unown xs
  have hdo0 : ∀ y : App, doff [0] y.d' = 0 := fun y => by simp [App.d', doff, D.pre, D.nth, D.size]
  have hdg0 : ∀ y : App, dget [0] y.d' = some (.int .i64 y.i) := fun y => rfl
  have key : ∀ m s : Int, s = newS a → (goodA xs = true → m = newI xs) → ∀ b : Bool, goodA (xs ++ [{ i := m, q := q, d := d, a := a, h := [], s := s }]) = b → newR App.d' xs q d a = if b = true then [.sl true 6 (appsD (xs ++ [{ i := m, q := q, d := d, a := a, h := [], s := s }])), .int .i64 m, .bool true] else [.sl true 6 .nil, .int .i64 0, .bool false] := by
    intro m s h1 h2 b h3
    subst h1
    unfold newR newOK
    cases hg : goodA xs with
    | false =>
      rw [goodA_app hg] at h3
      subst h3
      rfl
    | true =>
      have := h2 hg
      subst this
      rw [show newA xs q d a = { i := newI xs, q := q, d := d, a := a, h := [], s := newS a } from rfl, h3, Bool.true_and]
  have hG' : ∀ m s : Int, Fn prog 63 [.sl false 6 (appsD (xs ++ [{ i := m, q := q, d := d, a := a, h := [], s := s }])).unown] (fun rs => rs = [.bool (goodA (xs ++ [{ i := m, q := q, d := d, a := a, h := [], s := s }]))]) := fun m s => by
    rw [apps_unown]; exact hG _ ⟨ha, by simp⟩
  cases hs : decide ((a.length : Int) = 0)
  all_goals
    have hns := newS_lt hs
    rcases Nat.eq_zero_or_pos xs.length with hnil | hpos
  case false.inl =>
    have hl0 : decide ((0 : Int) < (xs.length : Int)) = false := decide_eq_false (by omega)
    have hI := key 1 0 (by rw [hns]; rfl) (fun _ => by rw [List.length_eq_zero_iff.1 hnil]; rfl)
    have hG1 := hG' 1 0
    refine Fn_ofg (ps := [[1, 1, 1, 1, 0]]) (fn := f54) (by exact func54) c54 r54 (n := 47) (by rfl) (rv := [.tmp 8, .tmp 9, .tmp 10]) (by rfl) (by simp) ?_
    unfold m54
    simp only [ghAll, ghAt]
    repeat' (first
        | (simp only [dl_len, ints_noOwn, hraw, hs, hl0, hv, hz, onC_true, doff_p0, dget_p0, dset_p0, doff_p5, dget_p5, dset_p5, ↓wA, ↓wC, wB, frzBE, frzBS, Nat.reduceEqDiff, Nat.reduceAdd, Nat.reduceSub, reduceIte, reduceCtorEq, Nat.reduceBEq, Nat.reduceLT, decide_true])
        | (refine call_det (hO) rfl rfl ?_)
        | (refine callP_det (hO) rfl rfl ?_)
        | (refine execG_split (fun h => ?_) (fun h => ?_) <;> simp only [h])
        | (refine execC_split (fun h => ?_) (fun h => ?_) <;> (try simp only [h]))
        | (refine onPick_split (fun h => ?_) (fun h => ?_) <;> (try simp only [h])))
    refine exec_gh1 (freeze 1 none [4] rfl rfl rfl) ?_
    simp only [obSet, hdp4, D.unown, ↓wA, ↓wC, wB, frzBE, frzBS, Nat.reduceEqDiff, Nat.reduceAdd, Nat.reduceSub, reduceIte, reduceCtorEq, Nat.reduceBEq, Nat.reduceLT, decide_true]
    generalize hgb : goodA (xs ++ [_]) = b at hG1
    have hI := hI b hgb
    clear hgb
    cases b
    all_goals
      repeat' (first
          | (simp only [dl_len, ints_noOwn, hy, ↓rd_app, App.noOwn, App.unown, oa_size, oa_isV, hs, onC_true, happ, hdo0, hdg0, ↓wA, ↓wC, wB, frzBE, frzBS, Nat.reduceEqDiff, Nat.reduceAdd, Nat.reduceSub, reduceIte, reduceCtorEq, Nat.reduceBEq, Nat.reduceLT, decide_true])
          | (refine call_det (hC) rfl rfl ?_)
          | (refine callP_det (hC) rfl rfl ?_)
          | (refine call_det (hG1) rfl rfl ?_)
          | (refine callP_det (hG1) rfl rfl ?_)
          | (refine onJ_q ?_)
          | (with_reducible refine And.intro ?_ ?_)
          | (with_reducible refine onC_i ?_ ?_; focus omega)
          | (with_reducible refine onC_i ?_ ?_; focus (simp; done))
          | (refine execG_split (fun h => ?_) (fun h => ?_) <;> simp only [h])
          | (refine execC_split (fun h => ?_) (fun h => ?_) <;> (try simp only [h]))
          | (refine onPick_split (fun h => ?_) (fun h => ?_) <;> (try simp only [h])))
      all_goals
        rw [hI]
        rfl
  case false.inr =>
    have hl0 : decide ((0 : Int) < (xs.length : Int)) = true := decide_eq_true (by omega)
    obtain ⟨l, hl, hl1, hl2, hin⟩ := lastA hpos
    refine Fn_ofg (ps := [[1, 1, 1, 1, 0]]) (fn := f54) (by exact func54) c54 r54 (n := 47) (by rfl) (rv := [.tmp 8, .tmp 9, .tmp 10]) (by rfl) (by simp) ?_
    unfold m54
    simp only [ghAll, ghAt]
    repeat' (first
        | (simp only [dl_len, ints_noOwn, hraw, hs, hl0, hv, hz, onC_true, doff_p0, dget_p0, dset_p0, doff_p5, dget_p5, dset_p5, hl1, hl2, dl_nth, Option.map_some, ↓fa_app0, ↓wA, ↓wC, wB, frzBE, frzBS, Nat.reduceEqDiff, Nat.reduceAdd, Nat.reduceSub, reduceIte, reduceCtorEq, Nat.reduceBEq, Nat.reduceLT, decide_true])
        | (refine call_det (hO) rfl rfl ?_)
        | (refine callP_det (hO) rfl rfl ?_)
        | (with_reducible refine onI_bare ?_ ?_; focus (simp only [InR]; omega))
        | (with_reducible refine onI_any fun m hm1 hm2 => ?_)
        | (refine execG_split (fun h => ?_) (fun h => ?_) <;> simp only [h])
        | (refine execC_split (fun h => ?_) (fun h => ?_) <;> (try simp only [h]))
        | (refine onPick_split (fun h => ?_) (fun h => ?_) <;> (try simp only [h])))
    have hI := key m 0 (by rw [hns]; rfl) (fun hg => by
      rw [hin]
      have hb := (okA_parts ((goodA_ok hg).2.2 l (List.mem_of_getElem? hl))).1
      exact hm2 (by simp only [InR]; omega))
    have hG1 := hG' m 0
    refine exec_gh1 (freeze 1 none [4] rfl rfl rfl) ?_
    simp only [obSet, hdp4, D.unown, ↓wA, ↓wC, wB, frzBE, frzBS, Nat.reduceEqDiff, Nat.reduceAdd, Nat.reduceSub, reduceIte, reduceCtorEq, Nat.reduceBEq, Nat.reduceLT, decide_true]
    generalize hgb : goodA (xs ++ [_]) = b at hG1
    have hI := hI b hgb
    clear hgb
    cases b
    all_goals
      repeat' (first
          | (simp only [dl_len, ints_noOwn, hy, ↓rd_app, App.noOwn, App.unown, oa_size, oa_isV, hs, onC_true, happ, hdo0, hdg0, ↓wA, ↓wC, wB, frzBE, frzBS, Nat.reduceEqDiff, Nat.reduceAdd, Nat.reduceSub, reduceIte, reduceCtorEq, Nat.reduceBEq, Nat.reduceLT, decide_true])
          | (refine call_det (hC) rfl rfl ?_)
          | (refine callP_det (hC) rfl rfl ?_)
          | (refine call_det (hG1) rfl rfl ?_)
          | (refine callP_det (hG1) rfl rfl ?_)
          | (refine onJ_q ?_)
          | (with_reducible refine And.intro ?_ ?_)
          | (with_reducible refine onC_i ?_ ?_; focus omega)
          | (with_reducible refine onC_i ?_ ?_; focus (simp; done))
          | (refine execG_split (fun h => ?_) (fun h => ?_) <;> simp only [h])
          | (refine execC_split (fun h => ?_) (fun h => ?_) <;> (try simp only [h]))
          | (refine onPick_split (fun h => ?_) (fun h => ?_) <;> (try simp only [h])))
      all_goals
        rw [hI]
        rfl
  case true.inl =>
    have hl0 : decide ((0 : Int) < (xs.length : Int)) = false := decide_eq_false (by omega)
    have hI := key 1 1 (by rw [hns]; rfl) (fun _ => by rw [List.length_eq_zero_iff.1 hnil]; rfl)
    have hG1 := hG' 1 1
    refine Fn_ofg (ps := [[1, 1, 1, 1, 0]]) (fn := f54) (by exact func54) c54 r54 (n := 47) (by rfl) (rv := [.tmp 8, .tmp 9, .tmp 10]) (by rfl) (by simp) ?_
    unfold m54
    simp only [ghAll, ghAt]
    repeat' (first
        | (simp only [dl_len, ints_noOwn, hraw, hs, hl0, hv, hz, onC_true, doff_p0, dget_p0, dset_p0, doff_p5, dget_p5, dset_p5, ↓wA, ↓wC, wB, frzBE, frzBS, Nat.reduceEqDiff, Nat.reduceAdd, Nat.reduceSub, reduceIte, reduceCtorEq, Nat.reduceBEq, Nat.reduceLT, decide_true])
        | (refine call_det (hO) rfl rfl ?_)
        | (refine callP_det (hO) rfl rfl ?_)
        | (refine execG_split (fun h => ?_) (fun h => ?_) <;> simp only [h])
        | (refine execC_split (fun h => ?_) (fun h => ?_) <;> (try simp only [h]))
        | (refine onPick_split (fun h => ?_) (fun h => ?_) <;> (try simp only [h])))
    refine exec_gh1 (freeze 1 none [4] rfl rfl rfl) ?_
    simp only [obSet, hdp4, D.unown, ↓wA, ↓wC, wB, frzBE, frzBS, Nat.reduceEqDiff, Nat.reduceAdd, Nat.reduceSub, reduceIte, reduceCtorEq, Nat.reduceBEq, Nat.reduceLT, decide_true]
    generalize hgb : goodA (xs ++ [_]) = b at hG1
    have hI := hI b hgb
    clear hgb
    cases b
    all_goals
      repeat' (first
          | (simp only [dl_len, ints_noOwn, hy, ↓rd_app, App.noOwn, App.unown, oa_size, oa_isV, hs, onC_true, happ, hdo0, hdg0, ↓wA, ↓wC, wB, frzBE, frzBS, Nat.reduceEqDiff, Nat.reduceAdd, Nat.reduceSub, reduceIte, reduceCtorEq, Nat.reduceBEq, Nat.reduceLT, decide_true])
          | (refine call_det (hC) rfl rfl ?_)
          | (refine callP_det (hC) rfl rfl ?_)
          | (refine call_det (hG1) rfl rfl ?_)
          | (refine callP_det (hG1) rfl rfl ?_)
          | (refine onJ_q ?_)
          | (with_reducible refine And.intro ?_ ?_)
          | (with_reducible refine onC_i ?_ ?_; focus omega)
          | (with_reducible refine onC_i ?_ ?_; focus (simp; done))
          | (refine execG_split (fun h => ?_) (fun h => ?_) <;> simp only [h])
          | (refine execC_split (fun h => ?_) (fun h => ?_) <;> (try simp only [h]))
          | (refine onPick_split (fun h => ?_) (fun h => ?_) <;> (try simp only [h])))
      all_goals
        rw [hI]
        rfl
  case true.inr =>
    have hl0 : decide ((0 : Int) < (xs.length : Int)) = true := decide_eq_true (by omega)
    obtain ⟨l, hl, hl1, hl2, hin⟩ := lastA hpos
    refine Fn_ofg (ps := [[1, 1, 1, 1, 0]]) (fn := f54) (by exact func54) c54 r54 (n := 47) (by rfl) (rv := [.tmp 8, .tmp 9, .tmp 10]) (by rfl) (by simp) ?_
    unfold m54
    simp only [ghAll, ghAt]
    repeat' (first
        | (simp only [dl_len, ints_noOwn, hraw, hs, hl0, hv, hz, onC_true, doff_p0, dget_p0, dset_p0, doff_p5, dget_p5, dset_p5, hl1, hl2, dl_nth, Option.map_some, ↓fa_app0, ↓wA, ↓wC, wB, frzBE, frzBS, Nat.reduceEqDiff, Nat.reduceAdd, Nat.reduceSub, reduceIte, reduceCtorEq, Nat.reduceBEq, Nat.reduceLT, decide_true])
        | (refine call_det (hO) rfl rfl ?_)
        | (refine callP_det (hO) rfl rfl ?_)
        | (with_reducible refine onI_bare ?_ ?_; focus (simp only [InR]; omega))
        | (with_reducible refine onI_any fun m hm1 hm2 => ?_)
        | (refine execG_split (fun h => ?_) (fun h => ?_) <;> simp only [h])
        | (refine execC_split (fun h => ?_) (fun h => ?_) <;> (try simp only [h]))
        | (refine onPick_split (fun h => ?_) (fun h => ?_) <;> (try simp only [h])))
    have hI := key m 1 (by rw [hns]; rfl) (fun hg => by
      rw [hin]
      have hb := (okA_parts ((goodA_ok hg).2.2 l (List.mem_of_getElem? hl))).1
      exact hm2 (by simp only [InR]; omega))
    have hG1 := hG' m 1
    refine exec_gh1 (freeze 1 none [4] rfl rfl rfl) ?_
    simp only [obSet, hdp4, D.unown, ↓wA, ↓wC, wB, frzBE, frzBS, Nat.reduceEqDiff, Nat.reduceAdd, Nat.reduceSub, reduceIte, reduceCtorEq, Nat.reduceBEq, Nat.reduceLT, decide_true]
    generalize hgb : goodA (xs ++ [_]) = b at hG1
    have hI := hI b hgb
    clear hgb
    cases b
    all_goals
      repeat' (first
          | (simp only [dl_len, ints_noOwn, hy, ↓rd_app, App.noOwn, App.unown, oa_size, oa_isV, hs, onC_true, happ, hdo0, hdg0, ↓wA, ↓wC, wB, frzBE, frzBS, Nat.reduceEqDiff, Nat.reduceAdd, Nat.reduceSub, reduceIte, reduceCtorEq, Nat.reduceBEq, Nat.reduceLT, decide_true])
          | (refine call_det (hC) rfl rfl ?_)
          | (refine callP_det (hC) rfl rfl ?_)
          | (refine call_det (hG1) rfl rfl ?_)
          | (refine callP_det (hG1) rfl rfl ?_)
          | (refine onJ_q ?_)
          | (with_reducible refine And.intro ?_ ?_)
          | (with_reducible refine onC_i ?_ ?_; focus omega)
          | (with_reducible refine onC_i ?_ ?_; focus (simp; done))
          | (refine execG_split (fun h => ?_) (fun h => ?_) <;> simp only [h])
          | (refine execC_split (fun h => ?_) (fun h => ?_) <;> (try simp only [h]))
          | (refine onPick_split (fun h => ?_) (fun h => ?_) <;> (try simp only [h])))
      all_goals
        rw [hI]
        rfl
end Go.Pe.Try

set_option maxRecDepth 100000
set_option maxHeartbeats 4000000
set_option linter.all false
namespace Go.Pe.Try
open Go.Proofs.Try
theorem nth_snoc (f : App → D) : ∀ (xs : List App) (y : D), ((dl f xs).app (D.cons y .nil)).nth xs.length = some y
  | [], y => rfl
  | x :: xs, y => nth_snoc f xs y
theorem setN_snoc (f : App → D) : ∀ (xs : List App) (y z : D), ((dl f xs).app (D.cons y .nil)).setN xs.length z = (dl f xs).app (D.cons z .nil)
  | [], y, z => rfl
  | x :: xs, y, z => by
    show D.cons (f x) (((dl f xs).app (D.cons y .nil)).setN xs.length z) = D.cons (f x) ((dl f xs).app (D.cons z .nil))
    rw [setN_snoc f xs y z]
theorem newAppeal_fn (xs : List App) (q d : Int) (a : List Int) (hlen : xs.length ≤ 1048576) (hx : ∀ x ∈ xs, x.ok0) (ha : a.length ≤ 1048576) : Fn prog 53 [.sl false 6 (appsD xs), .int .i64 q, .int .i64 d, .sl false 1 (dl iD a)] (fun rs => rs = newR App.o xs q d a) := by
  have hA := areAppeals_fn xs hlen hx
  have hK := cloneI_fn a ha
  have hC := copyAppeals_fn xs hlen hx
  cases hg : goodA xs with
  | false =>
    rw [hg] at hA
    refine Fn_ofg (ps := [[1, 1, 1, 1, 1, 1, 0, 0], [1, 1, 1, 1, 1, 1, 0, 0], [1, 1, 1, 1, 1, 0], [1, 1, 1, 1, 1, 0]]) (fn := f53) (by exact func53) c53 r53 (n := 48) (by rfl) (rv := [.tmp 8, .tmp 9, .tmp 10]) (by rfl) (by simp) ?_
    unfold m53
    simp only [ghAll, ghAt]
    repeat' (first
        | (simp only [↓wA, ↓wC, wB, frzBE, frzBS, Nat.reduceEqDiff, Nat.reduceAdd, Nat.reduceSub, reduceIte, reduceCtorEq, Nat.reduceBEq, Nat.reduceLT, decide_true])
        | (refine call_det (hA) rfl rfl ?_)
        | (refine callP_det (hA) rfl rfl ?_)
        | (refine execG_split (fun h => ?_) (fun h => ?_) <;> simp only [h])
        | (refine execC_split (fun h => ?_) (fun h => ?_) <;> (try simp only [h]))
        | (refine onPick_split (fun h => ?_) (fun h => ?_) <;> (try simp only [h])))
    refine take_nil 6 ?_
    rw [newR, newOK, hg]
    simp
  | true =>
    rw [hg] at hA
    have hok := goodA_ok hg
    have hraw : D.st (.cons (.int .i64 1) (.cons (.int .i64 q) (.cons (.int .i64 d) (.cons (.sl true 1 (dl iD a)) (.cons (.sl true 1 .nil) (.cons (.int .i64 0) .nil)))))) = App.p { i := 1, q := q, d := d, a := a, h := [], s := 0 } (.sl true 1 (dl iD a)) (.sl true 1 .nil) := rfl
    have hv : ∀ y : App, ∀ u v : D, (y.p u v).isV = true := fun _ _ _ => rfl
    have hz : ∀ y : App, (y.p (.sl true 1 (dl iD a)) (.sl true 1 .nil)).size = 6 := fun _ => rfl
    have hln : ∀ q v, (D.lnk q v).noOwn = true := fun _ _ => rfl
    have hls : ∀ q v, (D.lnk q v).size = 1 := fun _ _ => rfl
    have hget3 : ∀ (y : App) (u v : D), dget [3] (y.p u v) = some u := fun _ _ _ => rfl
    have hget4 : ∀ (y : App) (u v : D), dget [4] (y.p u v) = some v := fun _ _ _ => rfl
    have hset3 : ∀ (y : App) (u v w : D), dset [3] (y.p u v) w = y.p w v := fun _ _ _ _ => rfl
    have hset4 : ∀ (y : App) (u v w : D), dset [4] (y.p u v) w = y.p u w := fun _ _ _ _ => rfl
    have hns' := fun y => nth_snoc App.o xs y
    have hss' := fun y z => setN_snoc App.o xs y z
    have hy : ∀ m s : Int, (dl App.o xs).app (D.cons (App.p { i := m, q := q, d := d, a := a, h := [], s := s } (.sl true 1 (dl iD a)) (.sl true 1 .nil)) .nil) = dl App.o (xs ++ [{ i := m, q := q, d := d, a := a, h := [], s := s }]) := fun m s => app_one (f := App.o) xs { i := m, q := q, d := d, a := a, h := [], s := s }
    have hG' : ∀ m s : Int, Fn prog 51 [.sl false 6 (dl App.o (xs ++ [{ i := m, q := q, d := d, a := a, h := [], s := s }])).unown] (fun rs => rs = [.bool (goodA (xs ++ [{ i := m, q := q, d := d, a := a, h := [], s := s }]))]) := fun m s => by
      rw [dlo_unown]
      refine areAppeals_fn _ (by have := hok.1; simp; omega) (fun x hx' => ?_)
      rcases List.mem_append.1 hx' with h | h
      · exact hx x h
      · rw [List.mem_singleton.1 h]; exact ⟨ha, by simp⟩
    have key : ∀ m s : Int, s = newS a → m = newI xs → ∀ b : Bool, goodA (xs ++ [{ i := m, q := q, d := d, a := a, h := [], s := s }]) = b → newR App.o xs q d a = if b = true then [.sl true 6 (dl App.o (xs ++ [{ i := m, q := q, d := d, a := a, h := [], s := s }])), .int .i64 m, .bool true] else [.sl true 6 .nil, .int .i64 0, .bool false] := by
      intro m s h1 h2 b h3
      subst h1 h2
      unfold newR newOK
      rw [show newA xs q d a = { i := newI xs, q := q, d := d, a := a, h := [], s := newS a } from rfl, h3, hg, Bool.true_and]
    cases hs : decide ((a.length : Int) = 0)
    all_goals
      have hns := newS_lt hs
      rcases Nat.eq_zero_or_pos xs.length with hnil | hpos
    case false.inl =>
      have hl0 : decide ((0 : Int) < (xs.length : Int)) = false := decide_eq_false (by omega)
      have hl1 : (0 : Int) ≤ (xs.length : Int) := by omega
      have hl2 : (0 : Int) ≤ (xs.length : Int) := by omega
      have hI := key 1 0 (by rw [hns]; rfl) (by rw [List.length_eq_zero_iff.1 hnil]; rfl)
      have hG1 := hG' 1 0
      refine Fn_ofg (ps := [[1, 1, 1, 1, 1, 1, 0, 0], [1, 1, 1, 1, 1, 1, 0, 0], [1, 1, 1, 1, 1, 0], [1, 1, 1, 1, 1, 0]]) (fn := f53) (by exact func53) c53 r53 (n := 48) (by rfl) (rv := [.tmp 8, .tmp 9, .tmp 10]) (by rfl) (by simp) ?_
      unfold m53
      simp only [ghAll, ghAt]
      repeat' (first
          | (simp only [dl_len, ints_noOwn, hraw, hs, hl0, hv, hz, onC_true, doff_p0, dget_p0, dset_p0, doff_p5, dget_p5, dset_p5, hl1, hl2, dl_nth, Option.map_some, ↓fa_app0, ↓wA, ↓wC, wB, frzBE, frzBS, Nat.reduceEqDiff, Nat.reduceAdd, Nat.reduceSub, reduceIte, reduceCtorEq, Nat.reduceBEq, Nat.reduceLT, decide_true])
          | (refine call_det (hA) rfl rfl ?_)
          | (refine callP_det (hA) rfl rfl ?_)
          | (refine call_det (hK) rfl rfl ?_)
          | (refine callP_det (hK) rfl rfl ?_)
          | (with_reducible refine onI_bare ?_ ?_; focus (simp only [InR]; omega))
          | (refine execG_split (fun h => ?_) (fun h => ?_) <;> simp only [h])
          | (refine execC_split (fun h => ?_) (fun h => ?_) <;> (try simp only [h]))
          | (refine onPick_split (fun h => ?_) (fun h => ?_) <;> (try simp only [h])))
      refine exec_gh _ (unlink 2 none [3] (es := 1) (xs := dl iD a) rfl rfl) fun v1 => ?_
      simp only [obSet, hset3, ↓wA, ↓wC, wB, frzBE, frzBS, Nat.reduceEqDiff, Nat.reduceAdd, Nat.reduceSub, reduceIte, reduceCtorEq, Nat.reduceBEq, Nat.reduceLT, decide_true]
      refine exec_gh _ (unlink 2 none [4] (es := 1) (xs := .nil) rfl rfl) fun v2 => ?_
      simp only [obSet, hset4, ↓wA, ↓wC, wB, frzBE, frzBS, Nat.reduceEqDiff, Nat.reduceAdd, Nat.reduceSub, reduceIte, reduceCtorEq, Nat.reduceBEq, Nat.reduceLT, decide_true]
      repeat' (first
          | (simp only [dl_len, ints_noOwn, rd_p, size_p, isV_p, noOwn_p, hln, hls, hs, onC_true, ↓wA, ↓wC, wB, frzBE, frzBS, Nat.reduceEqDiff, Nat.reduceAdd, Nat.reduceSub, reduceIte, reduceCtorEq, Nat.reduceBEq, Nat.reduceLT, decide_true])
          | (refine call_det hC rfl rfl ?_)
          | (refine onJ_q ?_)
          | (with_reducible refine And.intro ?_ ?_)
          | (with_reducible refine onC_i ?_ ?_; focus omega)
          | (with_reducible refine onC_i ?_ ?_; focus (simp; done))
          | (refine execG_split (fun h => ?_) (fun h => ?_) <;> simp only [h])
          | (refine execC_split (fun h => ?_) (fun h => ?_) <;> (try simp only [h]))
          | (refine onPick_split (fun h => ?_) (fun h => ?_) <;> (try simp only [h])))
      · refine exec_gh1 (relink 7 4 3 (some xs.length) [3] rfl (by simp only [obPart, hns', Option.bind_some, hget3]) rfl rfl (by decide) rfl) ?_
        simp only [obSet, hns', hss', hset3, Option.getD_some, ↓wA, ↓wC, wB, frzBE, frzBS, Nat.reduceEqDiff, Nat.reduceAdd, Nat.reduceSub, reduceIte, reduceCtorEq, Nat.reduceBEq, Nat.reduceLT, decide_true]
        refine exec_gh1 (relink 7 6 5 (some xs.length) [4] rfl (by simp only [obPart, hns', Option.bind_some, hget4]) rfl rfl (by decide) rfl) ?_
        simp only [obSet, hns', hss', hset4, hy, Option.getD_some, ↓wA, ↓wC, wB, frzBE, frzBS, Nat.reduceEqDiff, Nat.reduceAdd, Nat.reduceSub, reduceIte, reduceCtorEq, Nat.reduceBEq, Nat.reduceLT, decide_true]
        generalize hgb : goodA (xs ++ [_]) = b at hG1
        have hI := hI b hgb
        clear hgb
        cases b
        all_goals
          repeat' (first
              | (simp only [rd_p, hs, onC_true, doff_p0, dget_p0, ↓wA, ↓wC, wB, frzBE, frzBS, Nat.reduceEqDiff, Nat.reduceAdd, Nat.reduceSub, reduceIte, reduceCtorEq, Nat.reduceBEq, Nat.reduceLT, decide_true])
              | (refine call_det (hG1) rfl rfl ?_)
              | (refine callP_det (hG1) rfl rfl ?_)
              | (refine take_nil 6 ?_)
              | (refine execG_split (fun h => ?_) (fun h => ?_) <;> simp only [h])
              | (refine execC_split (fun h => ?_) (fun h => ?_) <;> (try simp only [h]))
              | (refine onPick_split (fun h => ?_) (fun h => ?_) <;> (try simp only [h])))
          all_goals
            rw [hI]
            rfl
      · refine exec_gh1 (relink 8 4 3 (some xs.length) [3] rfl (by simp only [obPart, hns', Option.bind_some, hget3]) rfl rfl (by decide) rfl) ?_
        simp only [obSet, hns', hss', hset3, Option.getD_some, ↓wA, ↓wC, wB, frzBE, frzBS, Nat.reduceEqDiff, Nat.reduceAdd, Nat.reduceSub, reduceIte, reduceCtorEq, Nat.reduceBEq, Nat.reduceLT, decide_true]
        refine exec_gh1 (relink 8 6 5 (some xs.length) [4] rfl (by simp only [obPart, hns', Option.bind_some, hget4]) rfl rfl (by decide) rfl) ?_
        simp only [obSet, hns', hss', hset4, hy, Option.getD_some, ↓wA, ↓wC, wB, frzBE, frzBS, Nat.reduceEqDiff, Nat.reduceAdd, Nat.reduceSub, reduceIte, reduceCtorEq, Nat.reduceBEq, Nat.reduceLT, decide_true]
        generalize hgb : goodA (xs ++ [_]) = b at hG1
        have hI := hI b hgb
        clear hgb
        cases b
        all_goals
          repeat' (first
              | (simp only [rd_p, hs, onC_true, doff_p0, dget_p0, ↓wA, ↓wC, wB, frzBE, frzBS, Nat.reduceEqDiff, Nat.reduceAdd, Nat.reduceSub, reduceIte, reduceCtorEq, Nat.reduceBEq, Nat.reduceLT, decide_true])
              | (refine call_det (hG1) rfl rfl ?_)
              | (refine callP_det (hG1) rfl rfl ?_)
              | (refine take_nil 6 ?_)
              | (refine execG_split (fun h => ?_) (fun h => ?_) <;> simp only [h])
              | (refine execC_split (fun h => ?_) (fun h => ?_) <;> (try simp only [h]))
              | (refine onPick_split (fun h => ?_) (fun h => ?_) <;> (try simp only [h])))
          all_goals
            rw [hI]
            rfl
    case false.inr =>
      have hl0 : decide ((0 : Int) < (xs.length : Int)) = true := decide_eq_true (by omega)
      obtain ⟨l, hl, hl1, hl2, hin⟩ := lastA hpos
      have hb := (okA_parts (hok.2.2 l (List.mem_of_getElem? hl))).1
      have hI := key (l.i + 1) 0 (by rw [hns]; rfl) hin.symm
      have hG1 := hG' (l.i + 1) 0
      refine Fn_ofg (ps := [[1, 1, 1, 1, 1, 1, 0, 0], [1, 1, 1, 1, 1, 1, 0, 0], [1, 1, 1, 1, 1, 0], [1, 1, 1, 1, 1, 0]]) (fn := f53) (by exact func53) c53 r53 (n := 48) (by rfl) (rv := [.tmp 8, .tmp 9, .tmp 10]) (by rfl) (by simp) ?_
      unfold m53
      simp only [ghAll, ghAt]
      repeat' (first
          | (simp only [dl_len, ints_noOwn, hraw, hs, hl0, hv, hz, onC_true, doff_p0, dget_p0, dset_p0, doff_p5, dget_p5, dset_p5, hl1, hl2, dl_nth, Option.map_some, ↓fa_app0, ↓wA, ↓wC, wB, frzBE, frzBS, Nat.reduceEqDiff, Nat.reduceAdd, Nat.reduceSub, reduceIte, reduceCtorEq, Nat.reduceBEq, Nat.reduceLT, decide_true])
          | (refine call_det (hA) rfl rfl ?_)
          | (refine callP_det (hA) rfl rfl ?_)
          | (refine call_det (hK) rfl rfl ?_)
          | (refine callP_det (hK) rfl rfl ?_)
          | (with_reducible refine onI_bare ?_ ?_; focus (simp only [InR]; omega))
          | (refine execG_split (fun h => ?_) (fun h => ?_) <;> simp only [h])
          | (refine execC_split (fun h => ?_) (fun h => ?_) <;> (try simp only [h]))
          | (refine onPick_split (fun h => ?_) (fun h => ?_) <;> (try simp only [h])))
      refine exec_gh _ (unlink 2 none [3] (es := 1) (xs := dl iD a) rfl rfl) fun v1 => ?_
      simp only [obSet, hset3, ↓wA, ↓wC, wB, frzBE, frzBS, Nat.reduceEqDiff, Nat.reduceAdd, Nat.reduceSub, reduceIte, reduceCtorEq, Nat.reduceBEq, Nat.reduceLT, decide_true]
      refine exec_gh _ (unlink 2 none [4] (es := 1) (xs := .nil) rfl rfl) fun v2 => ?_
      simp only [obSet, hset4, ↓wA, ↓wC, wB, frzBE, frzBS, Nat.reduceEqDiff, Nat.reduceAdd, Nat.reduceSub, reduceIte, reduceCtorEq, Nat.reduceBEq, Nat.reduceLT, decide_true]
      repeat' (first
          | (simp only [dl_len, ints_noOwn, rd_p, size_p, isV_p, noOwn_p, hln, hls, hs, onC_true, ↓wA, ↓wC, wB, frzBE, frzBS, Nat.reduceEqDiff, Nat.reduceAdd, Nat.reduceSub, reduceIte, reduceCtorEq, Nat.reduceBEq, Nat.reduceLT, decide_true])
          | (refine call_det hC rfl rfl ?_)
          | (refine onJ_q ?_)
          | (with_reducible refine And.intro ?_ ?_)
          | (with_reducible refine onC_i ?_ ?_; focus omega)
          | (with_reducible refine onC_i ?_ ?_; focus (simp; done))
          | (refine execG_split (fun h => ?_) (fun h => ?_) <;> simp only [h])
          | (refine execC_split (fun h => ?_) (fun h => ?_) <;> (try simp only [h]))
          | (refine onPick_split (fun h => ?_) (fun h => ?_) <;> (try simp only [h])))
      · refine exec_gh1 (relink 7 4 3 (some xs.length) [3] rfl (by simp only [obPart, hns', Option.bind_some, hget3]) rfl rfl (by decide) rfl) ?_
        simp only [obSet, hns', hss', hset3, Option.getD_some, ↓wA, ↓wC, wB, frzBE, frzBS, Nat.reduceEqDiff, Nat.reduceAdd, Nat.reduceSub, reduceIte, reduceCtorEq, Nat.reduceBEq, Nat.reduceLT, decide_true]
        refine exec_gh1 (relink 7 6 5 (some xs.length) [4] rfl (by simp only [obPart, hns', Option.bind_some, hget4]) rfl rfl (by decide) rfl) ?_
        simp only [obSet, hns', hss', hset4, hy, Option.getD_some, ↓wA, ↓wC, wB, frzBE, frzBS, Nat.reduceEqDiff, Nat.reduceAdd, Nat.reduceSub, reduceIte, reduceCtorEq, Nat.reduceBEq, Nat.reduceLT, decide_true]
        generalize hgb : goodA (xs ++ [_]) = b at hG1
        have hI := hI b hgb
        clear hgb
        cases b
        all_goals
          repeat' (first
              | (simp only [rd_p, hs, onC_true, doff_p0, dget_p0, ↓wA, ↓wC, wB, frzBE, frzBS, Nat.reduceEqDiff, Nat.reduceAdd, Nat.reduceSub, reduceIte, reduceCtorEq, Nat.reduceBEq, Nat.reduceLT, decide_true])
              | (refine call_det (hG1) rfl rfl ?_)
              | (refine callP_det (hG1) rfl rfl ?_)
              | (refine take_nil 6 ?_)
              | (refine execG_split (fun h => ?_) (fun h => ?_) <;> simp only [h])
              | (refine execC_split (fun h => ?_) (fun h => ?_) <;> (try simp only [h]))
              | (refine onPick_split (fun h => ?_) (fun h => ?_) <;> (try simp only [h])))
          all_goals
            rw [hI]
            rfl
      · refine exec_gh1 (relink 8 4 3 (some xs.length) [3] rfl (by simp only [obPart, hns', Option.bind_some, hget3]) rfl rfl (by decide) rfl) ?_
        simp only [obSet, hns', hss', hset3, Option.getD_some, ↓wA, ↓wC, wB, frzBE, frzBS, Nat.reduceEqDiff, Nat.reduceAdd, Nat.reduceSub, reduceIte, reduceCtorEq, Nat.reduceBEq, Nat.reduceLT, decide_true]
        refine exec_gh1 (relink 8 6 5 (some xs.length) [4] rfl (by simp only [obPart, hns', Option.bind_some, hget4]) rfl rfl (by decide) rfl) ?_
        simp only [obSet, hns', hss', hset4, hy, Option.getD_some, ↓wA, ↓wC, wB, frzBE, frzBS, Nat.reduceEqDiff, Nat.reduceAdd, Nat.reduceSub, reduceIte, reduceCtorEq, Nat.reduceBEq, Nat.reduceLT, decide_true]
        generalize hgb : goodA (xs ++ [_]) = b at hG1
        have hI := hI b hgb
        clear hgb
        cases b
        all_goals
          repeat' (first
              | (simp only [rd_p, hs, onC_true, doff_p0, dget_p0, ↓wA, ↓wC, wB, frzBE, frzBS, Nat.reduceEqDiff, Nat.reduceAdd, Nat.reduceSub, reduceIte, reduceCtorEq, Nat.reduceBEq, Nat.reduceLT, decide_true])
              | (refine call_det (hG1) rfl rfl ?_)
              | (refine callP_det (hG1) rfl rfl ?_)
              | (refine take_nil 6 ?_)
              | (refine execG_split (fun h => ?_) (fun h => ?_) <;> simp only [h])
              | (refine execC_split (fun h => ?_) (fun h => ?_) <;> (try simp only [h]))
              | (refine onPick_split (fun h => ?_) (fun h => ?_) <;> (try simp only [h])))
          all_goals
            rw [hI]
            rfl
    case true.inl =>
      have hl0 : decide ((0 : Int) < (xs.length : Int)) = false := decide_eq_false (by omega)
      have hl1 : (0 : Int) ≤ (xs.length : Int) := by omega
      have hl2 : (0 : Int) ≤ (xs.length : Int) := by omega
      have hI := key 1 1 (by rw [hns]; rfl) (by rw [List.length_eq_zero_iff.1 hnil]; rfl)
      have hG1 := hG' 1 1
      refine Fn_ofg (ps := [[1, 1, 1, 1, 1, 1, 0, 0], [1, 1, 1, 1, 1, 1, 0, 0], [1, 1, 1, 1, 1, 0], [1, 1, 1, 1, 1, 0]]) (fn := f53) (by exact func53) c53 r53 (n := 48) (by rfl) (rv := [.tmp 8, .tmp 9, .tmp 10]) (by rfl) (by simp) ?_
      unfold m53
      simp only [ghAll, ghAt]
      repeat' (first
          | (simp only [dl_len, ints_noOwn, hraw, hs, hl0, hv, hz, onC_true, doff_p0, dget_p0, dset_p0, doff_p5, dget_p5, dset_p5, hl1, hl2, dl_nth, Option.map_some, ↓fa_app0, ↓wA, ↓wC, wB, frzBE, frzBS, Nat.reduceEqDiff, Nat.reduceAdd, Nat.reduceSub, reduceIte, reduceCtorEq, Nat.reduceBEq, Nat.reduceLT, decide_true])
          | (refine call_det (hA) rfl rfl ?_)
          | (refine callP_det (hA) rfl rfl ?_)
          | (refine call_det (hK) rfl rfl ?_)
          | (refine callP_det (hK) rfl rfl ?_)
          | (with_reducible refine onI_bare ?_ ?_; focus (simp only [InR]; omega))
          | (refine execG_split (fun h => ?_) (fun h => ?_) <;> simp only [h])
          | (refine execC_split (fun h => ?_) (fun h => ?_) <;> (try simp only [h]))
          | (refine onPick_split (fun h => ?_) (fun h => ?_) <;> (try simp only [h])))
      refine exec_gh _ (unlink 2 none [3] (es := 1) (xs := dl iD a) rfl rfl) fun v1 => ?_
      simp only [obSet, hset3, ↓wA, ↓wC, wB, frzBE, frzBS, Nat.reduceEqDiff, Nat.reduceAdd, Nat.reduceSub, reduceIte, reduceCtorEq, Nat.reduceBEq, Nat.reduceLT, decide_true]
      refine exec_gh _ (unlink 2 none [4] (es := 1) (xs := .nil) rfl rfl) fun v2 => ?_
      simp only [obSet, hset4, ↓wA, ↓wC, wB, frzBE, frzBS, Nat.reduceEqDiff, Nat.reduceAdd, Nat.reduceSub, reduceIte, reduceCtorEq, Nat.reduceBEq, Nat.reduceLT, decide_true]
      repeat' (first
          | (simp only [dl_len, ints_noOwn, rd_p, size_p, isV_p, noOwn_p, hln, hls, hs, onC_true, ↓wA, ↓wC, wB, frzBE, frzBS, Nat.reduceEqDiff, Nat.reduceAdd, Nat.reduceSub, reduceIte, reduceCtorEq, Nat.reduceBEq, Nat.reduceLT, decide_true])
          | (refine call_det hC rfl rfl ?_)
          | (refine onJ_q ?_)
          | (with_reducible refine And.intro ?_ ?_)
          | (with_reducible refine onC_i ?_ ?_; focus omega)
          | (with_reducible refine onC_i ?_ ?_; focus (simp; done))
          | (refine execG_split (fun h => ?_) (fun h => ?_) <;> simp only [h])
          | (refine execC_split (fun h => ?_) (fun h => ?_) <;> (try simp only [h]))
          | (refine onPick_split (fun h => ?_) (fun h => ?_) <;> (try simp only [h])))
      · refine exec_gh1 (relink 7 4 3 (some xs.length) [3] rfl (by simp only [obPart, hns', Option.bind_some, hget3]) rfl rfl (by decide) rfl) ?_
        simp only [obSet, hns', hss', hset3, Option.getD_some, ↓wA, ↓wC, wB, frzBE, frzBS, Nat.reduceEqDiff, Nat.reduceAdd, Nat.reduceSub, reduceIte, reduceCtorEq, Nat.reduceBEq, Nat.reduceLT, decide_true]
        refine exec_gh1 (relink 7 6 5 (some xs.length) [4] rfl (by simp only [obPart, hns', Option.bind_some, hget4]) rfl rfl (by decide) rfl) ?_
        simp only [obSet, hns', hss', hset4, hy, Option.getD_some, ↓wA, ↓wC, wB, frzBE, frzBS, Nat.reduceEqDiff, Nat.reduceAdd, Nat.reduceSub, reduceIte, reduceCtorEq, Nat.reduceBEq, Nat.reduceLT, decide_true]
        generalize hgb : goodA (xs ++ [_]) = b at hG1
        have hI := hI b hgb
        clear hgb
        cases b
        all_goals
          repeat' (first
              | (simp only [rd_p, hs, onC_true, doff_p0, dget_p0, ↓wA, ↓wC, wB, frzBE, frzBS, Nat.reduceEqDiff, Nat.reduceAdd, Nat.reduceSub, reduceIte, reduceCtorEq, Nat.reduceBEq, Nat.reduceLT, decide_true])
              | (refine call_det (hG1) rfl rfl ?_)
              | (refine callP_det (hG1) rfl rfl ?_)
              | (refine take_nil 6 ?_)
              | (refine execG_split (fun h => ?_) (fun h => ?_) <;> simp only [h])
              | (refine execC_split (fun h => ?_) (fun h => ?_) <;> (try simp only [h]))
              | (refine onPick_split (fun h => ?_) (fun h => ?_) <;> (try simp only [h])))
          all_goals
            rw [hI]
            rfl
      · refine exec_gh1 (relink 8 4 3 (some xs.length) [3] rfl (by simp only [obPart, hns', Option.bind_some, hget3]) rfl rfl (by decide) rfl) ?_
        simp only [obSet, hns', hss', hset3, Option.getD_some, ↓wA, ↓wC, wB, frzBE, frzBS, Nat.reduceEqDiff, Nat.reduceAdd, Nat.reduceSub, reduceIte, reduceCtorEq, Nat.reduceBEq, Nat.reduceLT, decide_true]
        refine exec_gh1 (relink 8 6 5 (some xs.length) [4] rfl (by simp only [obPart, hns', Option.bind_some, hget4]) rfl rfl (by decide) rfl) ?_
        simp only [obSet, hns', hss', hset4, hy, Option.getD_some, ↓wA, ↓wC, wB, frzBE, frzBS, Nat.reduceEqDiff, Nat.reduceAdd, Nat.reduceSub, reduceIte, reduceCtorEq, Nat.reduceBEq, Nat.reduceLT, decide_true]
        generalize hgb : goodA (xs ++ [_]) = b at hG1
        have hI := hI b hgb
        clear hgb
        cases b
        all_goals
          repeat' (first
              | (simp only [rd_p, hs, onC_true, doff_p0, dget_p0, ↓wA, ↓wC, wB, frzBE, frzBS, Nat.reduceEqDiff, Nat.reduceAdd, Nat.reduceSub, reduceIte, reduceCtorEq, Nat.reduceBEq, Nat.reduceLT, decide_true])
              | (refine call_det (hG1) rfl rfl ?_)
              | (refine callP_det (hG1) rfl rfl ?_)
              | (refine take_nil 6 ?_)
              | (refine execG_split (fun h => ?_) (fun h => ?_) <;> simp only [h])
              | (refine execC_split (fun h => ?_) (fun h => ?_) <;> (try simp only [h]))
              | (refine onPick_split (fun h => ?_) (fun h => ?_) <;> (try simp only [h])))
          all_goals
            rw [hI]
            rfl
    case true.inr =>
      have hl0 : decide ((0 : Int) < (xs.length : Int)) = true := decide_eq_true (by omega)
      obtain ⟨l, hl, hl1, hl2, hin⟩ := lastA hpos
      have hb := (okA_parts (hok.2.2 l (List.mem_of_getElem? hl))).1
      have hI := key (l.i + 1) 1 (by rw [hns]; rfl) hin.symm
      have hG1 := hG' (l.i + 1) 1
      refine Fn_ofg (ps := [[1, 1, 1, 1, 1, 1, 0, 0], [1, 1, 1, 1, 1, 1, 0, 0], [1, 1, 1, 1, 1, 0], [1, 1, 1, 1, 1, 0]]) (fn := f53) (by exact func53) c53 r53 (n := 48) (by rfl) (rv := [.tmp 8, .tmp 9, .tmp 10]) (by rfl) (by simp) ?_
      unfold m53
      simp only [ghAll, ghAt]
      repeat' (first
          | (simp only [dl_len, ints_noOwn, hraw, hs, hl0, hv, hz, onC_true, doff_p0, dget_p0, dset_p0, doff_p5, dget_p5, dset_p5, hl1, hl2, dl_nth, Option.map_some, ↓fa_app0, ↓wA, ↓wC, wB, frzBE, frzBS, Nat.reduceEqDiff, Nat.reduceAdd, Nat.reduceSub, reduceIte, reduceCtorEq, Nat.reduceBEq, Nat.reduceLT, decide_true])
          | (refine call_det (hA) rfl rfl ?_)
          | (refine callP_det (hA) rfl rfl ?_)
          | (refine call_det (hK) rfl rfl ?_)
          | (refine callP_det (hK) rfl rfl ?_)
          | (with_reducible refine onI_bare ?_ ?_; focus (simp only [InR]; omega))
          | (refine execG_split (fun h => ?_) (fun h => ?_) <;> simp only [h])
          | (refine execC_split (fun h => ?_) (fun h => ?_) <;> (try simp only [h]))
          | (refine onPick_split (fun h => ?_) (fun h => ?_) <;> (try simp only [h])))
      refine exec_gh _ (unlink 2 none [3] (es := 1) (xs := dl iD a) rfl rfl) fun v1 => ?_
      simp only [obSet, hset3, ↓wA, ↓wC, wB, frzBE, frzBS, Nat.reduceEqDiff, Nat.reduceAdd, Nat.reduceSub, reduceIte, reduceCtorEq, Nat.reduceBEq, Nat.reduceLT, decide_true]
      refine exec_gh _ (unlink 2 none [4] (es := 1) (xs := .nil) rfl rfl) fun v2 => ?_
      simp only [obSet, hset4, ↓wA, ↓wC, wB, frzBE, frzBS, Nat.reduceEqDiff, Nat.reduceAdd, Nat.reduceSub, reduceIte, reduceCtorEq, Nat.reduceBEq, Nat.reduceLT, decide_true]
      repeat' (first
          | (simp only [dl_len, ints_noOwn, rd_p, size_p, isV_p, noOwn_p, hln, hls, hs, onC_true, ↓wA, ↓wC, wB, frzBE, frzBS, Nat.reduceEqDiff, Nat.reduceAdd, Nat.reduceSub, reduceIte, reduceCtorEq, Nat.reduceBEq, Nat.reduceLT, decide_true])
          | (refine call_det hC rfl rfl ?_)
          | (refine onJ_q ?_)
          | (with_reducible refine And.intro ?_ ?_)
          | (with_reducible refine onC_i ?_ ?_; focus omega)
          | (with_reducible refine onC_i ?_ ?_; focus (simp; done))
          | (refine execG_split (fun h => ?_) (fun h => ?_) <;> simp only [h])
          | (refine execC_split (fun h => ?_) (fun h => ?_) <;> (try simp only [h]))
          | (refine onPick_split (fun h => ?_) (fun h => ?_) <;> (try simp only [h])))
      · refine exec_gh1 (relink 7 4 3 (some xs.length) [3] rfl (by simp only [obPart, hns', Option.bind_some, hget3]) rfl rfl (by decide) rfl) ?_
        simp only [obSet, hns', hss', hset3, Option.getD_some, ↓wA, ↓wC, wB, frzBE, frzBS, Nat.reduceEqDiff, Nat.reduceAdd, Nat.reduceSub, reduceIte, reduceCtorEq, Nat.reduceBEq, Nat.reduceLT, decide_true]
        refine exec_gh1 (relink 7 6 5 (some xs.length) [4] rfl (by simp only [obPart, hns', Option.bind_some, hget4]) rfl rfl (by decide) rfl) ?_
        simp only [obSet, hns', hss', hset4, hy, Option.getD_some, ↓wA, ↓wC, wB, frzBE, frzBS, Nat.reduceEqDiff, Nat.reduceAdd, Nat.reduceSub, reduceIte, reduceCtorEq, Nat.reduceBEq, Nat.reduceLT, decide_true]
        generalize hgb : goodA (xs ++ [_]) = b at hG1
        have hI := hI b hgb
        clear hgb
        cases b
        all_goals
          repeat' (first
              | (simp only [rd_p, hs, onC_true, doff_p0, dget_p0, ↓wA, ↓wC, wB, frzBE, frzBS, Nat.reduceEqDiff, Nat.reduceAdd, Nat.reduceSub, reduceIte, reduceCtorEq, Nat.reduceBEq, Nat.reduceLT, decide_true])
              | (refine call_det (hG1) rfl rfl ?_)
              | (refine callP_det (hG1) rfl rfl ?_)
              | (refine take_nil 6 ?_)
              | (refine execG_split (fun h => ?_) (fun h => ?_) <;> simp only [h])
              | (refine execC_split (fun h => ?_) (fun h => ?_) <;> (try simp only [h]))
              | (refine onPick_split (fun h => ?_) (fun h => ?_) <;> (try simp only [h])))
          all_goals
            rw [hI]
            rfl
      · refine exec_gh1 (relink 8 4 3 (some xs.length) [3] rfl (by simp only [obPart, hns', Option.bind_some, hget3]) rfl rfl (by decide) rfl) ?_
        simp only [obSet, hns', hss', hset3, Option.getD_some, ↓wA, ↓wC, wB, frzBE, frzBS, Nat.reduceEqDiff, Nat.reduceAdd, Nat.reduceSub, reduceIte, reduceCtorEq, Nat.reduceBEq, Nat.reduceLT, decide_true]
        refine exec_gh1 (relink 8 6 5 (some xs.length) [4] rfl (by simp only [obPart, hns', Option.bind_some, hget4]) rfl rfl (by decide) rfl) ?_
        simp only [obSet, hns', hss', hset4, hy, Option.getD_some, ↓wA, ↓wC, wB, frzBE, frzBS, Nat.reduceEqDiff, Nat.reduceAdd, Nat.reduceSub, reduceIte, reduceCtorEq, Nat.reduceBEq, Nat.reduceLT, decide_true]
        generalize hgb : goodA (xs ++ [_]) = b at hG1
        have hI := hI b hgb
        clear hgb
        cases b
        all_goals
          repeat' (first
              | (simp only [rd_p, hs, onC_true, doff_p0, dget_p0, ↓wA, ↓wC, wB, frzBE, frzBS, Nat.reduceEqDiff, Nat.reduceAdd, Nat.reduceSub, reduceIte, reduceCtorEq, Nat.reduceBEq, Nat.reduceLT, decide_true])
              | (refine call_det (hG1) rfl rfl ?_)
              | (refine callP_det (hG1) rfl rfl ?_)
              | (refine take_nil 6 ?_)
              | (refine execG_split (fun h => ?_) (fun h => ?_) <;> simp only [h])
              | (refine execC_split (fun h => ?_) (fun h => ?_) <;> (try simp only [h]))
              | (refine onPick_split (fun h => ?_) (fun h => ?_) <;> (try simp only [h])))
          all_goals
            rw [hI]
            rfl
end Go.Pe.Try

set_option maxRecDepth 100000
set_option maxHeartbeats 4000000
set_option linter.all false
namespace Go.Pe.Try
open Go.Proofs.Try
theorem isNaN_fn (a : Int) : Fn prog 130 [.int .i64 a] (fun rs => rs = [.bool false]) := by
  refine Fn_of' (fn := f130) (by exact func130) c130 r130 (n := 6) (by rfl) (rv := [.tmp 2]) (by rfl) (by simp) ?_
  unfold m130
  simp only [↓wA, ↓wC, wB, frzBE, frzBS, Nat.reduceEqDiff, Nat.reduceAdd, Nat.reduceSub, reduceIte, reduceCtorEq, Nat.reduceBEq, Nat.reduceLT, decide_true]
theorem cmpLess_fn (a b : Int) : Fn prog 146 [.int .i64 a, .int .i64 b] (fun rs => rs = [.bool (decide (a < b))]) := by
  have h1 := isNaN_fn a
  have h2 := isNaN_fn b
  refine Fn_of' (fn := f146) (by exact func146) c146 r146 (n := 17) (by rfl) (rv := [.tmp 4]) (by rfl) (by simp) ?_
  unfold m146
  repeat' (first
      | (simp only [↓wA, ↓wC, wB, frzBE, frzBS, Nat.reduceEqDiff, Nat.reduceAdd, Nat.reduceSub, reduceIte, reduceCtorEq, Nat.reduceBEq, Nat.reduceLT, decide_true])
      | (refine call_det (h1) rfl rfl ?_)
      | (refine callP_det (h1) rfl rfl ?_)
      | (refine call_det (h2) rfl rfl ?_)
      | (refine callP_det (h2) rfl rfl ?_)
      | (refine execG_split (fun h => ?_) (fun h => ?_) <;> simp only [h])
      | (refine execC_split (fun h => ?_) (fun h => ?_) <;> (try simp only [h]))
      | (refine onPick_split (fun h => ?_) (fun h => ?_) <;> (try simp only [h])))
def lenTab (n : Nat) : Int := [0, 1, 2, 2, 3, 3, 3, 3].getD n 0
theorem len64_fn (n : Nat) (h : n ≤ 7) : Fn prog 150 [.int .u64 n] (fun rs => rs = [.int .i64 (lenTab n)]) := by
  have h1 : decide ((4294967296 : Int) ≤ (n : Int)) = false := decide_eq_false (by omega)
  have h2 : decide ((65536 : Int) ≤ (n : Int)) = false := decide_eq_false (by omega)
  have h3 : decide ((256 : Int) ≤ (n : Int)) = false := decide_eq_false (by omega)
  have h8 : n = 0 ∨ n = 1 ∨ n = 2 ∨ n = 3 ∨ n = 4 ∨ n = 5 ∨ n = 6 ∨ n = 7 := by omega
  refine Fn_of' (fn := f150) (by exact func150) c150 r150 (n := 25) (by rfl) (rv := [.tmp 2]) (by rfl) (by simp) ?_
  unfold m150
  repeat' (first
      | (simp only [onC_true, h1, h2, h3, ↓wA, ↓wC, wB, frzBE, frzBS, Nat.reduceEqDiff, Nat.reduceAdd, Nat.reduceSub, reduceIte, reduceCtorEq, Nat.reduceBEq, Nat.reduceLT, decide_true])
      | (with_reducible refine onI_bare ?_ ?_; focus (simp only [InR]; omega))
      | (refine execG_split (fun h => ?_) (fun h => ?_) <;> simp only [h])
      | (refine execC_split (fun h => ?_) (fun h => ?_) <;> (try simp only [h]))
      | (refine onPick_split (fun h => ?_) (fun h => ?_) <;> (try simp only [h])))
  rcases h8 with rfl | rfl | rfl | rfl | rfl | rfl | rfl | rfl
  all_goals
    refine onC_i (by decide) ?_
    refine ⟨_, rfl, ?_⟩
    refine onI_bare (by simp only [InR]; decide) ?_
    simp only [↓wA, ↓wC, wB, frzBE, frzBS, Nat.reduceEqDiff, Nat.reduceAdd, Nat.reduceSub, reduceIte, reduceCtorEq, Nat.reduceBEq, Nat.reduceLT, decide_true]
    refine onI_bare (by simp only [InR]; decide) ?_
    simp only [↓wA, ↓wC, wB, frzBE, frzBS, Nat.reduceEqDiff, Nat.reduceAdd, Nat.reduceSub, reduceIte, reduceCtorEq, Nat.reduceBEq, Nat.reduceLT, decide_true]
    rfl
def pos (p : Int) : List Int → Nat
  | [] => 0
  | a :: t => if a < p then pos p t + 1 else 0
def putI (p : Int) (v : List Int) : List Int := v.take (pos p v) ++ p :: v.drop (pos p v)
theorem pos_eq {p : Int} : ∀ (v : List Int) (j : Nat), j ≤ v.length → (∀ m x, m < j → v[m]? = some x → x < p) → (∀ x, v[j]? = some x → ¬ x < p) → pos p v = j
  | [], j, h, _, _ => by
    simp at h
    subst h
    rfl
  | a :: t, 0, _, _, h3 => by
    rw [pos, if_neg (h3 a rfl)]
  | a :: t, j + 1, h, h2, h3 => by
    rw [pos, if_pos (h2 0 a (by omega) rfl), pos_eq t j (by simpa using h) (fun m x hm hx => h2 (m + 1) x (by omega) (by simpa using hx)) (fun x hx => h3 x (by simpa using hx))]
def risen (v : List Int) : Prop := ∀ j a b, v[j]? = some a → v[j + 1]? = some b → a < b
theorem risen_lt {v : List Int} (h : risen v) : ∀ (k m : Nat) (a b : Int), m < k → v[m]? = some a → v[k]? = some b → a < b
  | 0, m, a, b, hm, _, _ => by omega
  | k + 1, m, a, b, hm, ha, hb => by
    by_cases e : m = k
    · subst e; exact h m a b ha hb
    · obtain ⟨c, hc⟩ := get_lt (show k < v.length by have := lt_of_get hb; omega)
      have h1 := risen_lt h k m a c (by omega) ha hc
      have h2 := h k c b hc hb
      omega
def mv (p : Int) (v : List Int) (j : Nat) : List Int := v.take j ++ p :: v.drop j
theorem mv_len {p : Int} {v : List Int} {j : Nat} (h : j ≤ v.length) : (mv p v j).length = v.length + 1 := by simp [mv]; omega
theorem mv_n {p : Int} {v : List Int} : mv p v v.length = v ++ [p] := by simp [mv]
theorem mv_at {p : Int} {v : List Int} {j : Nat} (h : j ≤ v.length) : (mv p v j)[j]? = some p := by
  rw [mv, List.getElem?_append_right (by simp; omega), List.length_take, Nat.min_eq_left h, Nat.sub_self]; rfl
theorem mv_bf {p x : Int} {v : List Int} {k : Nat} (h : v[k]? = some x) : (mv p v (k + 1))[k]? = some x := by
  have hk := lt_of_get h
  rw [mv, List.getElem?_append_left (by simp; omega), List.getElem?_take_of_lt (by omega)]
  exact h
theorem mv_swap {p x : Int} {v : List Int} {k : Nat} (h : v[k]? = some x) : ((mv p v (k + 1)).set (k + 1) x).set k p = mv p v k := by
  have hk := lt_of_get h
  rw [mv, take_snoc h, mv, adrop_get h, List.append_assoc]
  have hl : (v.take k).length = k := by simp; omega
  rw [List.set_append_right _ _ (by omega), hl, show k + 1 - k = 1 by omega, List.set_append_right _ _ (by omega), hl, Nat.sub_self]
  rfl
theorem insSort_fn (p : Int) (v : List Int) (hr : risen v) (hp : p ∉ v) (hlen : v.length ≤ 6) : FnM prog 140 false (.sl true 1 (dl iD (v ++ [p]))) [.int .i64 0, .int .i64 (v.length + 1)] (fun x' rs => x' = .sl true 1 (dl iD (putI p v)) ∧ rs = []) := by
  have hput : ∀ j, j ≤ v.length → (∀ m x, m < j → v[m]? = some x → x < p) → (∀ x, v[j]? = some x → ¬ x < p) → mv p v j = putI p v := fun j h1 h2 h3 => by rw [putI, pos_eq v j h1 h2 h3, mv]
  have hnp : ∀ {m x : _}, v[m]? = some x → x ≠ p := fun {m x} h e => hp (e ▸ List.mem_of_getElem? h)
  refine FnM_of' (fn := f140) (by exact func140) c140 r140 (n := 49) (by rfl) (rv := []) (by rfl) (by decide) (by simp) ?_
  unfold m140
  simp only [dl_len, ↓wA, ↓wC, wB, frzBE, frzBS, Nat.reduceEqDiff, Nat.reduceAdd, Nat.reduceSub, reduceIte, reduceCtorEq, Nat.reduceBEq, Nat.reduceLT, decide_true]
  refine onI_bare (by simp only [InR]; omega) ?_
  refine exec_loop (fun i : Nat => ⟨[(0, .own 0), (1, .d (.int .i64 0)), (2, .d (.int .i64 (v.length + 1))), (6, .d (.int .i64 i))], [.val (.sl true 1 (dl iD (if i ≤ v.length then v ++ [p] else putI p v)))]⟩) (fun i => 1 ≤ i ∧ i ≤ v.length + 1) (fun i => v.length + 1 - i) 1 ?_ ⟨by omega, by omega⟩ ?_
  · have e : (if 1 ≤ v.length then v ++ [p] else putI p v) = v ++ [p] := by
      split
      · rfl
      · rename_i h
        have h0 : v.length = 0 := by omega
        have e : v = [] := List.length_eq_zero_iff.1 h0
        subst e
        rfl
    rw [e]
    exact (weak_of _ rfl ⟨⟨rfl, rfl⟩, ⟨rfl, rfl⟩, ⟨rfl, rfl⟩, ⟨rfl, rfl⟩, trivial⟩)
  rintro i ⟨hi1, hi2⟩
  by_cases hin : i = v.length + 1
  · subst hin
    have hd : decide (((v.length + 1 : Nat) : Int) < (v.length : Int) + 1) = false := decide_eq_false (by omega)
    rw [if_neg (by omega)]
    simp only [hd, ↓wA, ↓wC, wB, frzBE, frzBS, Nat.reduceEqDiff, Nat.reduceAdd, Nat.reduceSub, reduceIte, reduceCtorEq, Nat.reduceBEq, Nat.reduceLT, decide_true]
  · have hd : decide ((i : Int) < (v.length : Int) + 1) = true := decide_eq_true (by omega)
    rw [if_pos (by omega)]
    by_cases hlt : i < v.length
    · obtain ⟨k, rfl⟩ : ∃ k, i = k + 1 := ⟨i - 1, by omega⟩
      obtain ⟨y, hy⟩ := get_lt hlt
      obtain ⟨x, hx⟩ := get_lt (show k < v.length by omega)
      have hxy := hr k x y hx hy
      have h1 : decide (0 < ((k + 1 : Nat) : Int)) = true := decide_eq_true (by omega)
      have h2 : decide (y < x) = false := decide_eq_false (by omega)
      have hn1 : (((k + 1 : Nat) : Int) - 1).toNat = k := by omega
      have h0 : (0 : Int) ≤ ((k + 1 : Nat) : Int) := by omega
      have h0' : (0 : Int) ≤ ((k + 1 : Nat) : Int) - 1 := by omega
      have hg1 : (v ++ [p])[k + 1]? = some y := by rw [List.getElem?_append_left hlt]; exact hy
      have hg2 : (v ++ [p])[k]? = some x := by rw [List.getElem?_append_left (by omega)]; exact hx
      simp only [hd, ↓wA, ↓wC, wB, frzBE, frzBS, Nat.reduceEqDiff, Nat.reduceAdd, Nat.reduceSub, reduceIte, reduceCtorEq, Nat.reduceBEq, Nat.reduceLT, decide_true]
      refine exec_loop (fun _ : Unit => ⟨[(0, .own 0), (1, .d (.int .i64 0)), (2, .d (.int .i64 (v.length + 1))), (6, .d (.int .i64 ((k + 1 : Nat) : Int))), (7, .d (.int .i64 ((k + 1 : Nat) : Int)))], [.val (.sl true 1 (dl iD (v ++ [p])))]⟩) (fun _ => True) (fun _ => 0) () (weak_of _ rfl ⟨⟨rfl, rfl⟩, ⟨rfl, rfl⟩, ⟨rfl, rfl⟩, ⟨rfl, rfl⟩, ⟨rfl, rfl⟩, trivial⟩) trivial ?_
      rintro _ _
      repeat' (first
          | (simp only [dl_len, rd_iD, h1, h2, hn1, h0, h0', dl_nth, hg1, hg2, Option.map_some, onC_true, Int.toNat_natCast, dget_int, doff_int, size_int, ↓wA, ↓wC, wB, frzBE, frzBS, Nat.reduceEqDiff, Nat.reduceAdd, Nat.reduceSub, reduceIte, reduceCtorEq, Nat.reduceBEq, Nat.reduceLT, decide_true])
          | (refine call_det (cmpLess_fn y x) rfl rfl ?_)
          | (refine callP_det (cmpLess_fn y x) rfl rfl ?_)
          | (refine callP_det (cmpLess_fn _ _) rfl rfl ?_)
          | (with_reducible refine onI_bare ?_ ?_; focus (simp only [InR]; omega))
          | (refine execG_split (fun h => ?_) (fun h => ?_) <;> simp only [h])
          | (refine execC_split (fun h => ?_) (fun h => ?_) <;> (try simp only [h]))
          | (refine onPick_split (fun h => ?_) (fun h => ?_) <;> (try simp only [h])))
      refine ⟨k + 1 + 1, ?_, ⟨by omega, by omega⟩, by omega⟩
      rw [if_pos (by omega)]
      exact (weak_of _ rfl ⟨⟨rfl, rfl⟩, ⟨rfl, rfl⟩, ⟨rfl, rfl⟩, ⟨rfl, rfl⟩, trivial⟩)
    · have e : i = v.length := by omega
      subst e
      simp only [hd, ↓wA, ↓wC, wB, frzBE, frzBS, Nat.reduceEqDiff, Nat.reduceAdd, Nat.reduceSub, reduceIte, reduceCtorEq, Nat.reduceBEq, Nat.reduceLT, decide_true]
      refine exec_loop (fun j : Nat => ⟨[(0, .own 0), (1, .d (.int .i64 0)), (2, .d (.int .i64 (v.length + 1))), (6, .d (.int .i64 (v.length : Int))), (7, .d (.int .i64 j))], [.val (.sl true 1 (dl iD (mv p v j)))]⟩) (fun j => j ≤ v.length ∧ ∀ x, v[j]? = some x → ¬ x < p) (fun j => j) v.length ?_ ⟨Nat.le_refl _, fun x hx => absurd (lt_of_get hx) (by omega)⟩ ?_
      · rw [mv_n]; exact (weak_of _ rfl ⟨⟨rfl, rfl⟩, ⟨rfl, rfl⟩, ⟨rfl, rfl⟩, ⟨rfl, rfl⟩, ⟨rfl, rfl⟩, trivial⟩)
      rintro j ⟨hj, hjx⟩
      cases j with
      | zero =>
        have hf := hput 0 hj (fun m x hm _ => by omega) hjx
        have h1 : decide (0 < ((0 : Nat) : Int)) = false := rfl
        repeat' (first
            | (simp only [h1, ↓wA, ↓wC, wB, frzBE, frzBS, Nat.reduceEqDiff, Nat.reduceAdd, Nat.reduceSub, reduceIte, reduceCtorEq, Nat.reduceBEq, Nat.reduceLT, decide_true])
            | (with_reducible refine onI_bare ?_ ?_; focus (simp only [InR]; omega))
            | (refine execG_split (fun h => ?_) (fun h => ?_) <;> simp only [h])
            | (refine execC_split (fun h => ?_) (fun h => ?_) <;> (try simp only [h]))
            | (refine onPick_split (fun h => ?_) (fun h => ?_) <;> (try simp only [h])))
        refine ⟨v.length + 1, ?_, ⟨by omega, by omega⟩, by omega⟩
        rw [if_neg (by omega), ← hf]
        exact (weak_of _ rfl ⟨⟨rfl, rfl⟩, ⟨rfl, rfl⟩, ⟨rfl, rfl⟩, ⟨rfl, rfl⟩, trivial⟩)
      | succ k =>
        obtain ⟨x, hx⟩ := get_lt (show k < v.length by omega)
        have hne := hnp hx
        have h1 : decide (0 < ((k + 1 : Nat) : Int)) = true := decide_eq_true (by omega)
        have hn1 : (((k + 1 : Nat) : Int) - 1).toNat = k := by omega
        have h0 : (0 : Int) ≤ ((k + 1 : Nat) : Int) := by omega
        have h0' : (0 : Int) ≤ ((k + 1 : Nat) : Int) - 1 := by omega
        have hg1 := mv_at (p := p) hj
        have hg2 := mv_bf (p := p) hx
        have hml := mv_len (p := p) hj
        have hs1 : ((dl iD (mv p v (k + 1))).setN (k + 1) (.int .i64 x)) = dl iD ((mv p v (k + 1)).set (k + 1) x) := dl_setN (f := iD) _ _ x
        have hs2 : ((dl iD ((mv p v (k + 1)).set (k + 1) x)).setN k (.int .i64 p)) = dl iD (mv p v k) := (dl_setN (f := iD) _ _ p).trans (by rw [mv_swap hx])
        have hg3 : ((mv p v (k + 1)).set (k + 1) x)[k]? = some x := by rw [List.getElem?_set_ne (by omega)]; exact hg2
        cases hc : decide (p < x) with
        | false =>
          have hf := hput (k + 1) hj (fun m z hm hz => by
            have hc' := of_decide_eq_false hc
            by_cases e : m = k
            · subst e
              rw [hx] at hz
              injection hz with hz
              omega
            · have := risen_lt hr k m z x (by omega) hz hx
              omega) hjx
          repeat' (first
              | (simp only [dl_len, rd_iD, hml, h1, hc, hn1, h0, h0', dl_nth, hg1, hg2, Option.map_some, onC_true, Int.toNat_natCast, dget_int, doff_int, size_int, ↓wA, ↓wC, wB, frzBE, frzBS, Nat.reduceEqDiff, Nat.reduceAdd, Nat.reduceSub, reduceIte, reduceCtorEq, Nat.reduceBEq, Nat.reduceLT, decide_true])
              | (refine callP_det (cmpLess_fn _ _) rfl rfl ?_)
              | (with_reducible refine onI_bare ?_ ?_; focus (simp only [InR]; omega))
              | (refine execG_split (fun h => ?_) (fun h => ?_) <;> simp only [h])
              | (refine execC_split (fun h => ?_) (fun h => ?_) <;> (try simp only [h]))
              | (refine onPick_split (fun h => ?_) (fun h => ?_) <;> (try simp only [h])))
          refine ⟨v.length + 1, ?_, ⟨by omega, by omega⟩, by omega⟩
          rw [if_neg (by omega), ← hf]
          exact (weak_of _ rfl ⟨⟨rfl, rfl⟩, ⟨rfl, rfl⟩, ⟨rfl, rfl⟩, ⟨rfl, rfl⟩, trivial⟩)
        | true =>
          repeat' (first
              | (simp only [dl_len, rd_iD, hml, h1, hc, hn1, h0, h0', dl_nth, hg1, hg2, hg3, hs1, hs2, setN_len, List.length_set, Option.map_some, onC_true, Int.toNat_natCast, dget_int, doff_int, size_int, ↓wA, ↓wC, wB, frzBE, frzBS, Nat.reduceEqDiff, Nat.reduceAdd, Nat.reduceSub, reduceIte, reduceCtorEq, Nat.reduceBEq, Nat.reduceLT, decide_true])
              | (refine callP_det (cmpLess_fn _ _) rfl rfl ?_)
              | (refine onJ_q ?_)
              | (with_reducible refine onI_bare ?_ ?_; focus (simp only [InR]; omega))
              | (refine execG_split (fun h => ?_) (fun h => ?_) <;> simp only [h])
              | (refine execC_split (fun h => ?_) (fun h => ?_) <;> (try simp only [h]))
              | (refine onPick_split (fun h => ?_) (fun h => ?_) <;> (try simp only [h])))
          rw [show ((k + 1 : Nat) : Int) - 1 = (k : Int) by omega]
          refine ⟨k, (weak_of _ rfl ⟨⟨rfl, rfl⟩, ⟨rfl, rfl⟩, ⟨rfl, rfl⟩, ⟨rfl, rfl⟩, ⟨rfl, rfl⟩, trivial⟩), ⟨by omega, fun z hz => ?_⟩, by omega⟩
          rw [hx] at hz
          injection hz with hz
          have := of_decide_eq_true hc
          omega
theorem bitsLen_fn (n : Nat) (h : n ≤ 7) : Fn prog 134 [.int .u64 n] (fun rs => rs = [.int .i64 (lenTab n)]) := by
  have h1 := len64_fn n h
  refine Fn_of' (fn := f134) (by exact func134) c134 r134 (n := 8) (by rfl) (rv := [.tmp 2]) (by rfl) (by simp) ?_
  unfold m134
  repeat' (first
      | (simp only [↓wA, ↓wC, wB, frzBE, frzBS, Nat.reduceEqDiff, Nat.reduceAdd, Nat.reduceSub, reduceIte, reduceCtorEq, Nat.reduceBEq, Nat.reduceLT, decide_true])
      | (refine call_det (h1) rfl rfl ?_)
      | (refine callP_det (h1) rfl rfl ?_)
      | (refine execG_split (fun h => ?_) (fun h => ?_) <;> simp only [h])
      | (refine execC_split (fun h => ?_) (fun h => ?_) <;> (try simp only [h]))
      | (refine onPick_split (fun h => ?_) (fun h => ?_) <;> (try simp only [h])))
theorem pdq_fn (p : Int) (v : List Int) (m : Int) (hr : risen v) (hp : p ∉ v) (hlen : v.length ≤ 6) : FnM prog 133 false (.sl true 1 (dl iD (v ++ [p]))) [.int .i64 0, .int .i64 (v.length + 1), .int .i64 m] (fun x' rs => x' = .sl true 1 (dl iD (putI p v)) ∧ rs = []) := by
  have hI := insSort_fn p v hr hp hlen
  have h12 : decide ((v.length : Int) + 1 - 0 ≤ 12) = true := decide_eq_true (by omega)
  refine FnM_of' (fn := f133) (by exact func133) c133 r133 (n := 134) (by rfl) (rv := []) (by rfl) (by decide) (by simp) ?_
  unfold m133
  simp only [↓wA, ↓wC, wB, frzBE, frzBS, Nat.reduceEqDiff, Nat.reduceAdd, Nat.reduceSub, reduceIte, reduceCtorEq, Nat.reduceBEq, Nat.reduceLT, decide_true]
  refine exec_loop (fun _ : Unit => ⟨[(0, .own 0), (1, .d (.int .i64 0)), (2, .d (.int .i64 (v.length + 1))), (3, .d (.int .i64 m)), (8, .d (.bool true)), (9, .d (.bool true))], [.val (.sl true 1 (dl iD (v ++ [p])))]⟩) (fun _ => True) (fun _ => 0) () (weak_of _ rfl ⟨⟨rfl, rfl⟩, ⟨rfl, rfl⟩, ⟨rfl, rfl⟩, ⟨rfl, rfl⟩, ⟨rfl, rfl⟩, ⟨rfl, rfl⟩, trivial⟩) trivial ?_
  rintro _ _
  repeat' (first
      | (simp only [h12, ↓wA, ↓wC, wB, frzBE, frzBS, Nat.reduceEqDiff, Nat.reduceAdd, Nat.reduceSub, reduceIte, reduceCtorEq, Nat.reduceBEq, Nat.reduceLT, decide_true])
      | (refine callM_det hI rfl rfl rfl ?_)
      | (with_reducible refine onI_bare ?_ ?_; focus (simp only [InR]; omega))
      | (refine execG_split (fun h => ?_) (fun h => ?_) <;> simp only [h])
      | (refine execC_split (fun h => ?_) (fun h => ?_) <;> (try simp only [h]))
      | (refine onPick_split (fun h => ?_) (fun h => ?_) <;> (try simp only [h])))
theorem sort_fn (p : Int) (v : List Int) (hr : risen v) (hp : p ∉ v) (hlen : v.length ≤ 6) : FnM prog 103 false (.sl true 1 (dl iD (v ++ [p]))) [] (fun x' rs => x' = .sl true 1 (dl iD (putI p v)) ∧ rs = []) := by
  have hl : ((v.length + 1 : Nat) : Int) = (v.length : Int) + 1 := by omega
  have hl2 : (v ++ [p]).length = v.length + 1 := by simp
  have hB : Fn prog 134 [.int .u64 ((v.length : Int) + 1)] (fun rs => rs = [.int .i64 (lenTab (v.length + 1))]) := bitsLen_fn (v.length + 1) (by omega)
  have hP := pdq_fn p v (lenTab (v.length + 1)) hr hp hlen
  have hU : InR .u64 ((v.length : Int) + 1) := by
    have h8 : v.length = 0 ∨ v.length = 1 ∨ v.length = 2 ∨ v.length = 3 ∨ v.length = 4 ∨ v.length = 5 ∨ v.length = 6 := by omega
    rcases h8 with h | h | h | h | h | h | h
    all_goals
      rw [h]
      show IntKind.wrap .u64 _ = _
      decide
  refine FnM_of' (fn := f103) (by exact func103) c103 r103 (n := 11) (by rfl) (rv := []) (by rfl) (by decide) (by simp) ?_
  unfold m103
  repeat' (first
      | (simp only [dl_len, hl2, hl, ↓wA, ↓wC, wB, frzBE, frzBS, Nat.reduceEqDiff, Nat.reduceAdd, Nat.reduceSub, reduceIte, reduceCtorEq, Nat.reduceBEq, Nat.reduceLT, decide_true])
      | (refine call_det (hB) rfl rfl ?_)
      | (refine callP_det (hB) rfl rfl ?_)
      | (refine onI_bare hU ?_)
      | (refine callM_det hP rfl rfl rfl ?_)
      | (with_reducible refine onI_bare ?_ ?_; focus (simp only [InR]; omega))
      | (refine execG_split (fun h => ?_) (fun h => ?_) <;> simp only [h])
      | (refine execC_split (fun h => ?_) (fun h => ?_) <;> (try simp only [h]))
      | (refine onPick_split (fun h => ?_) (fun h => ?_) <;> (try simp only [h])))
end Go.Pe.Try

set_option maxRecDepth 100000
set_option maxHeartbeats 4000000
set_option linter.all false
namespace Go.Pe.Try
open Go.Proofs.Try
def waitA (x : App) (p : Int) : Bool := decide (x.s = 0) && x.a.contains p && !x.h.contains p
def hearA (x : App) (p : Int) : App := { x with h := putI p x.h, s := if ((putI p x.h).length : Int) = (x.a.length : Int) then 1 else x.s }
def hearOK (xs : List App) (x : App) (p : Int) : Bool := goodA xs && waitA x p
def hearR (xs : List App) (id p : Int) : Option (List App) := match xs[(findA xs id).toNat]? with
  | some x => if (decide (0 ≤ findA xs id) && hearOK xs x p) = true then some (xs.set (findA xs id).toNat (hearA x p)) else none
  | none => none
theorem hearR_neg {xs : List App} {id p : Int} (h : decide (0 ≤ findA xs id) = false) : hearR xs id p = none := by
  unfold hearR
  rw [h]
  split <;> simp
theorem hearR_at {xs : List App} {id p : Int} {i : Nat} {x : App} (h : findA xs id = (i : Int)) (hr : xs[i]? = some x) : hearR xs id p = if hearOK xs x p = true then some (xs.set i (hearA x p)) else none := by
  unfold hearR
  rw [h, Int.toNat_natCast, hr]
  simp
theorem putI_len {p : Int} {v : List Int} : (putI p v).length = v.length + 1 := by
  simp only [putI, List.length_append, List.length_cons, List.length_take, List.length_drop]
  omega
theorem risen_of {v : List Int} (h : rises v = true) : risen v := fun j a b ha hb => by
  have := (rises_iff v).1 h j (lt_of_get hb)
  rw [List.getD_eq_getElem?_getD, List.getD_eq_getElem?_getD, ha, hb] at this
  exact this
theorem wait_parts {xs : List App} {x : App} {p : Int} (hg : goodA xs = true) (hm : x ∈ xs) (hw : waitA x p = true) : x.s = 0 ∧ x.h.length ≤ 6 ∧ x.a.length ≤ 6 ∧ risen x.h ∧ p ∉ x.h := by
  have hk := (goodA_ok hg).2.2 x hm
  have hp := okA_parts hk
  simp only [waitA, Bool.and_eq_true, decide_eq_true_eq, Bool.not_eq_true'] at hw
  have hs := hw.1.1
  have hc := hw.2
  simp only [okA, Bool.and_eq_true] at hk
  have hl := hk.2
  rw [hs] at hl
  have hlt : x.h.length < x.a.length := by simpa using hl
  refine ⟨hs, by omega, by omega, risen_of hp.2.2.2.2.2.2.1, fun h => ?_⟩
  rw [List.contains_iff_mem.2 h] at hc
  cases hc
theorem waits_fn (x : App) (p : Int) (hx : x.ok0) : Fn prog 88 [x.d', .int .i64 p] (fun rs => rs = [.bool (waitA x p)]) := by
  have h1 := containsI_fn x.a p hx.1
  have h2 := containsI_fn x.h p hx.2
  refine Fn_of' (fn := f88) (by exact func88) c88 r88 (n := 21) (by rfl) (rv := [.tmp 4]) (by rfl) (by simp) ?_
  unfold m88
  simp only [App.d']
  repeat' (first
      | (simp only [ints_noOwn, onC_true, ↓wA, ↓wC, wB, frzBE, frzBS, Nat.reduceEqDiff, Nat.reduceAdd, Nat.reduceSub, reduceIte, reduceCtorEq, Nat.reduceBEq, Nat.reduceLT, decide_true])
      | (refine call_det (h1) rfl rfl ?_)
      | (refine callP_det (h1) rfl rfl ?_)
      | (refine call_det (h2) rfl rfl ?_)
      | (refine callP_det (h2) rfl rfl ?_)
      | (refine execG_split (fun h => ?_) (fun h => ?_) <;> simp only [h])
      | (refine execC_split (fun h => ?_) (fun h => ?_) <;> (try simp only [h]))
      | (refine onPick_split (fun h => ?_) (fun h => ?_) <;> (try simp only [h])))
  all_goals simp_all [waitA]
theorem hearParty_fn (xs : List App) (id p : Int) (hlen : xs.length ≤ 1048576) (hx : ∀ x ∈ xs, x.ok0) : Fn prog 48 [.sl false 6 (appsD xs), .int .i64 id, .int .i64 p] (fun rs => rs = listR App.o (hearR xs id p)) := by
  have hF := appealAt_fn xs id hlen
  have hG := areAppeals_fn xs hlen hx
  have hC := copyAppeals_fn xs hlen hx
  rcases find_cases xs id with ⟨hn, hn'⟩ | ⟨i, x, hi, hr, _⟩
  · rw [hearR_neg hn']
    refine Fn_of' (fn := f48) (by exact func48) c48 r48 (n := 65) (by rfl) (rv := [.tmp 6, .tmp 7]) (by rfl) (by simp) ?_
    unfold m48
    repeat' (first
        | (simp only [hn, ↓wA, ↓wC, wB, frzBE, frzBS, Nat.reduceEqDiff, Nat.reduceAdd, Nat.reduceSub, reduceIte, reduceCtorEq, Nat.reduceBEq, Nat.reduceLT, decide_true])
        | (refine call_det (hF) rfl rfl ?_)
        | (refine callP_det (hF) rfl rfl ?_)
        | (refine call_det (hG) rfl rfl ?_)
        | (refine callP_det (hG) rfl rfl ?_)
        | (refine take_nil 6 ?_)
        | (refine execG_split (fun h => ?_) (fun h => ?_) <;> simp only [h])
        | (refine execC_split (fun h => ?_) (fun h => ?_) <;> (try simp only [h]))
        | (refine onPick_split (fun h => ?_) (fun h => ?_) <;> (try simp only [h])))
    all_goals rfl
  · rw [hearR_at hi hr]
    rw [hi] at hF
    have hm := List.mem_of_getElem? hr
    have h0 : (0 : Int) ≤ (i : Int) := by omega
    have hn : decide ((i : Int) < 0) = false := decide_eq_false (by omega)
    have hW := waits_fn x p (hx x hm)
    have hW' : Fn prog 88 [x.d'.unown, .int .i64 p] (fun rs => rs = [.bool (waitA x p)]) := by rw [App.unown]; exact hW
    unfold hearOK
    cases hg : goodA xs with
    | false =>
      rw [hg] at hG
      refine Fn_of' (fn := f48) (by exact func48) c48 r48 (n := 65) (by rfl) (rv := [.tmp 6, .tmp 7]) (by rfl) (by simp) ?_
      unfold m48
      repeat' (first
          | (simp only [hn, ↓wA, ↓wC, wB, frzBE, frzBS, Nat.reduceEqDiff, Nat.reduceAdd, Nat.reduceSub, reduceIte, reduceCtorEq, Nat.reduceBEq, Nat.reduceLT, decide_true])
          | (refine call_det (hF) rfl rfl ?_)
          | (refine callP_det (hF) rfl rfl ?_)
          | (refine call_det (hG) rfl rfl ?_)
          | (refine callP_det (hG) rfl rfl ?_)
          | (refine take_nil 6 ?_)
          | (refine execG_split (fun h => ?_) (fun h => ?_) <;> simp only [h])
          | (refine execC_split (fun h => ?_) (fun h => ?_) <;> (try simp only [h]))
          | (refine onPick_split (fun h => ?_) (fun h => ?_) <;> (try simp only [h])))
      all_goals rfl
    | true =>
      rw [hg] at hG
      cases hw : waitA x p with
      | false =>
        rw [hw] at hW hW'
        refine Fn_of' (fn := f48) (by exact func48) c48 r48 (n := 65) (by rfl) (rv := [.tmp 6, .tmp 7]) (by rfl) (by simp) ?_
        unfold m48
        repeat' (first
            | (simp only [hn, h0, dl_nth, Int.toNat_natCast, hr, Option.map_some, onC_true, ↓rd_app, oa_size, oa_isV, App.noOwn, ↓wA, ↓wC, wB, frzBE, frzBS, Nat.reduceEqDiff, Nat.reduceAdd, Nat.reduceSub, reduceIte, reduceCtorEq, Nat.reduceBEq, Nat.reduceLT, decide_true])
            | (refine call_det (hF) rfl rfl ?_)
            | (refine callP_det (hF) rfl rfl ?_)
            | (refine call_det (hG) rfl rfl ?_)
            | (refine callP_det (hG) rfl rfl ?_)
            | (refine call_det (hW) rfl rfl ?_)
            | (refine callP_det (hW) rfl rfl ?_)
            | (refine call_det (hW') rfl rfl ?_)
            | (refine callP_det (hW') rfl rfl ?_)
            | (refine take_nil 6 ?_)
            | (refine execG_split (fun h => ?_) (fun h => ?_) <;> simp only [h])
            | (refine execC_split (fun h => ?_) (fun h => ?_) <;> (try simp only [h]))
            | (refine onPick_split (fun h => ?_) (fun h => ?_) <;> (try simp only [h])))
        all_goals rfl
      | true =>
        rw [hw] at hW hW'
        obtain ⟨hs, hh6, ha6, hri, hpn⟩ := wait_parts hg hm hw
        have hSo := sort_fn p x.h hri hpn hh6
        have hox : App.o x = x.p (.sl true 1 (dl iD x.a)) (.sl true 1 (dl iD x.h)) := rfl
        have hgs : ∀ (y : D), ((dl App.o xs).setN i y).nth i = some y := fun y => by rw [setN_nth, if_pos rfl, dl_nth, hr]; rfl
        have hln : ∀ q v, (D.lnk q v).noOwn = true := fun _ _ => rfl
        have hls : ∀ q v, (D.lnk q v).size = 1 := fun _ _ => rfl
        have hpl : ((putI p x.h).length : Int) = (x.h.length : Int) + 1 := by rw [putI_len]; omega
        cases hc : decide (((putI p x.h).length : Int) = (x.a.length : Int)) with
        | false =>
          have e : hearA x p = { x with h := putI p x.h, s := x.s } := by rw [hearA, if_neg (of_decide_eq_false hc)]
          have ek : x.p (.sl true 1 (dl iD x.a)) (.sl true 1 (dl iD (putI p x.h))) = App.o (hearA x p) := by rw [e]; rfl
          refine Fn_ofg (ps := [[1, 1, 1, 1, 1, 1, 1, 0, 0], [1, 1, 1, 1, 1, 1, 1, 1, 0], [1, 1, 1, 1, 1, 1, 1, 1, 0], [1, 1, 1, 1, 1, 1, 0], [1, 1, 1, 1, 1, 0]]) (fn := f48) (by exact func48) c48 r48 (n := 65) (by rfl) (rv := [.tmp 6, .tmp 7]) (by rfl) (by simp) ?_
          unfold m48
          simp only [ghAll, ghAt]
          repeat' (first
              | (simp only [hn, h0, dl_nth, Int.toNat_natCast, hr, Option.map_some, onC_true, ↓rd_app, oa_size, oa_isV, App.noOwn, ↓wA, ↓wC, wB, frzBE, frzBS, Nat.reduceEqDiff, Nat.reduceAdd, Nat.reduceSub, reduceIte, reduceCtorEq, Nat.reduceBEq, Nat.reduceLT, decide_true])
              | (refine call_det (hF) rfl rfl ?_)
              | (refine callP_det (hF) rfl rfl ?_)
              | (refine call_det (hG) rfl rfl ?_)
              | (refine callP_det (hG) rfl rfl ?_)
              | (refine call_det (hW) rfl rfl ?_)
              | (refine callP_det (hW) rfl rfl ?_)
              | (refine call_det (hW') rfl rfl ?_)
              | (refine callP_det (hW') rfl rfl ?_)
              | (refine call_det hC rfl rfl ?_)
              | (refine execG_split (fun h => ?_) (fun h => ?_) <;> simp only [h])
              | (refine execC_split (fun h => ?_) (fun h => ?_) <;> (try simp only [h]))
              | (refine onPick_split (fun h => ?_) (fun h => ?_) <;> (try simp only [h])))
          refine exec_gh _ (unlink 0 (some i) [4] (es := 1) (xs := dl iD x.h) rfl (by simp only [obPart, dl_nth, hr, Option.map_some, hox, Option.bind_some, dget_p4])) fun v1 => ?_
          simp only [obSet, dl_nth, hr, Option.map_some, Option.getD_some, hox, dset_p4, ↓wA, ↓wC, wB, frzBE, frzBS, Nat.reduceEqDiff, Nat.reduceAdd, Nat.reduceSub, reduceIte, reduceCtorEq, Nat.reduceBEq, Nat.reduceLT, decide_true]
          repeat' (first
              | (simp only [h0, Int.toNat_natCast, hgs, onC_true, rd_p, size_p, isV_p, noOwn_p, hln, hls, doff_p3, dget_p3, dset_p3, doff_p4, dget_p4, dset_p4, doff_p5, dget_p5, dset_p5, dl_len, hc, setN_setN, app_int, Option.getD_some, Option.map_some, ↓wA, ↓wC, wB, frzBE, frzBS, Nat.reduceEqDiff, Nat.reduceAdd, Nat.reduceSub, reduceIte, reduceCtorEq, Nat.reduceBEq, Nat.reduceLT, decide_true])
              | (with_reducible refine onC_i ?_ ?_; focus omega)
              | (with_reducible refine onC_i ?_ ?_; focus (simp; done))
              | (refine execG_split (fun h => ?_) (fun h => ?_) <;> simp only [h])
              | (refine execC_split (fun h => ?_) (fun h => ?_) <;> (try simp only [h]))
              | (refine onPick_split (fun h => ?_) (fun h => ?_) <;> (try simp only [h])))
          refine exec_gh _ (unlink 0 (some i) [4] (es := 1) (xs := dl iD (x.h ++ [p])) rfl (by simp only [obPart, hgs, Option.bind_some, dget_p4])) fun v2 => ?_
          simp only [obSet, hgs, Option.getD_some, dset_p4, setN_setN, ↓wA, ↓wC, wB, frzBE, frzBS, Nat.reduceEqDiff, Nat.reduceAdd, Nat.reduceSub, reduceIte, reduceCtorEq, Nat.reduceBEq, Nat.reduceLT, decide_true]
          repeat' (first
              | (simp only [h0, Int.toNat_natCast, hgs, onC_true, rd_p, size_p, isV_p, noOwn_p, hln, hls, doff_p3, dget_p3, dset_p3, doff_p4, dget_p4, dset_p4, doff_p5, dget_p5, dset_p5, dl_len, hc, setN_setN, app_int, Option.getD_some, Option.map_some, ↓wA, ↓wC, wB, frzBE, frzBS, Nat.reduceEqDiff, Nat.reduceAdd, Nat.reduceSub, reduceIte, reduceCtorEq, Nat.reduceBEq, Nat.reduceLT, decide_true])
              | (refine callM_det hSo rfl rfl rfl ?_)
              | (with_reducible refine onC_i ?_ ?_; focus omega)
              | (with_reducible refine onC_i ?_ ?_; focus (simp; done))
              | (refine execG_split (fun h => ?_) (fun h => ?_) <;> simp only [h])
              | (refine execC_split (fun h => ?_) (fun h => ?_) <;> (try simp only [h]))
              | (refine onPick_split (fun h => ?_) (fun h => ?_) <;> (try simp only [h])))
          refine exec_gh _ (unlink 0 (some i) [3] (es := 1) (xs := dl iD x.a) rfl (by simp only [obPart, hgs, Option.bind_some, dget_p3])) fun v3 => ?_
          simp only [obSet, hgs, Option.getD_some, dset_p3, setN_setN, ↓wA, ↓wC, wB, frzBE, frzBS, Nat.reduceEqDiff, Nat.reduceAdd, Nat.reduceSub, reduceIte, reduceCtorEq, Nat.reduceBEq, Nat.reduceLT, decide_true]
          repeat' (first
              | (simp only [h0, Int.toNat_natCast, hgs, onC_true, rd_p, size_p, isV_p, noOwn_p, hln, hls, doff_p3, dget_p3, dset_p3, doff_p4, dget_p4, dset_p4, doff_p5, dget_p5, dset_p5, dl_len, hc, setN_setN, app_int, Option.getD_some, Option.map_some, ↓wA, ↓wC, wB, frzBE, frzBS, Nat.reduceEqDiff, Nat.reduceAdd, Nat.reduceSub, reduceIte, reduceCtorEq, Nat.reduceBEq, Nat.reduceLT, decide_true])
              | (with_reducible refine onC_i ?_ ?_; focus omega)
              | (with_reducible refine onC_i ?_ ?_; focus (simp; done))
              | (refine execG_split (fun h => ?_) (fun h => ?_) <;> simp only [h])
              | (refine execC_split (fun h => ?_) (fun h => ?_) <;> (try simp only [h]))
              | (refine onPick_split (fun h => ?_) (fun h => ?_) <;> (try simp only [h])))
          refine exec_gh1 (relink 0 5 4 (some i) [4] rfl (by simp only [obPart, hgs, Option.bind_some, dget_p4]) rfl rfl (by decide) rfl) ?_
          simp only [obSet, hgs, Option.getD_some, dset_p4, setN_setN, ↓wA, ↓wC, wB, frzBE, frzBS, Nat.reduceEqDiff, Nat.reduceAdd, Nat.reduceSub, reduceIte, reduceCtorEq, Nat.reduceBEq, Nat.reduceLT, decide_true]
          refine exec_gh1 (relink 0 7 6 (some i) [3] rfl (by simp only [obPart, hgs, Option.bind_some, dget_p3]) rfl rfl (by decide) rfl) ?_
          simp only [obSet, hgs, Option.getD_some, dset_p3, setN_setN, ↓wA, ↓wC, wB, frzBE, frzBS, Nat.reduceEqDiff, Nat.reduceAdd, Nat.reduceSub, reduceIte, reduceCtorEq, Nat.reduceBEq, Nat.reduceLT, decide_true]
          rw [ek, dl_setN]
          rfl
        | true =>
          have e : hearA x p = { x with h := putI p x.h, s := 1 } := by rw [hearA, if_pos (of_decide_eq_true hc)]
          have ek : App.p { i := x.i, q := x.q, d := x.d, a := x.a, h := x.h, s := 1 } (.sl true 1 (dl iD x.a)) (.sl true 1 (dl iD (putI p x.h))) = App.o (hearA x p) := by rw [e]; rfl
          refine Fn_ofg (ps := [[1, 1, 1, 1, 1, 1, 1, 0, 0], [1, 1, 1, 1, 1, 1, 1, 1, 0], [1, 1, 1, 1, 1, 1, 1, 1, 0], [1, 1, 1, 1, 1, 1, 0], [1, 1, 1, 1, 1, 0]]) (fn := f48) (by exact func48) c48 r48 (n := 65) (by rfl) (rv := [.tmp 6, .tmp 7]) (by rfl) (by simp) ?_
          unfold m48
          simp only [ghAll, ghAt]
          repeat' (first
              | (simp only [hn, h0, dl_nth, Int.toNat_natCast, hr, Option.map_some, onC_true, ↓rd_app, oa_size, oa_isV, App.noOwn, ↓wA, ↓wC, wB, frzBE, frzBS, Nat.reduceEqDiff, Nat.reduceAdd, Nat.reduceSub, reduceIte, reduceCtorEq, Nat.reduceBEq, Nat.reduceLT, decide_true])
              | (refine call_det (hF) rfl rfl ?_)
              | (refine callP_det (hF) rfl rfl ?_)
              | (refine call_det (hG) rfl rfl ?_)
              | (refine callP_det (hG) rfl rfl ?_)
              | (refine call_det (hW) rfl rfl ?_)
              | (refine callP_det (hW) rfl rfl ?_)
              | (refine call_det (hW') rfl rfl ?_)
              | (refine callP_det (hW') rfl rfl ?_)
              | (refine call_det hC rfl rfl ?_)
              | (refine execG_split (fun h => ?_) (fun h => ?_) <;> simp only [h])
              | (refine execC_split (fun h => ?_) (fun h => ?_) <;> (try simp only [h]))
              | (refine onPick_split (fun h => ?_) (fun h => ?_) <;> (try simp only [h])))
          refine exec_gh _ (unlink 0 (some i) [4] (es := 1) (xs := dl iD x.h) rfl (by simp only [obPart, dl_nth, hr, Option.map_some, hox, Option.bind_some, dget_p4])) fun v1 => ?_
          simp only [obSet, dl_nth, hr, Option.map_some, Option.getD_some, hox, dset_p4, ↓wA, ↓wC, wB, frzBE, frzBS, Nat.reduceEqDiff, Nat.reduceAdd, Nat.reduceSub, reduceIte, reduceCtorEq, Nat.reduceBEq, Nat.reduceLT, decide_true]
          repeat' (first
              | (simp only [h0, Int.toNat_natCast, hgs, onC_true, rd_p, size_p, isV_p, noOwn_p, hln, hls, doff_p3, dget_p3, dset_p3, doff_p4, dget_p4, dset_p4, doff_p5, dget_p5, dset_p5, dl_len, hc, setN_setN, app_int, Option.getD_some, Option.map_some, ↓wA, ↓wC, wB, frzBE, frzBS, Nat.reduceEqDiff, Nat.reduceAdd, Nat.reduceSub, reduceIte, reduceCtorEq, Nat.reduceBEq, Nat.reduceLT, decide_true])
              | (with_reducible refine onC_i ?_ ?_; focus omega)
              | (with_reducible refine onC_i ?_ ?_; focus (simp; done))
              | (refine execG_split (fun h => ?_) (fun h => ?_) <;> simp only [h])
              | (refine execC_split (fun h => ?_) (fun h => ?_) <;> (try simp only [h]))
              | (refine onPick_split (fun h => ?_) (fun h => ?_) <;> (try simp only [h])))
          refine exec_gh _ (unlink 0 (some i) [4] (es := 1) (xs := dl iD (x.h ++ [p])) rfl (by simp only [obPart, hgs, Option.bind_some, dget_p4])) fun v2 => ?_
          simp only [obSet, hgs, Option.getD_some, dset_p4, setN_setN, ↓wA, ↓wC, wB, frzBE, frzBS, Nat.reduceEqDiff, Nat.reduceAdd, Nat.reduceSub, reduceIte, reduceCtorEq, Nat.reduceBEq, Nat.reduceLT, decide_true]
          repeat' (first
              | (simp only [h0, Int.toNat_natCast, hgs, onC_true, rd_p, size_p, isV_p, noOwn_p, hln, hls, doff_p3, dget_p3, dset_p3, doff_p4, dget_p4, dset_p4, doff_p5, dget_p5, dset_p5, dl_len, hc, setN_setN, app_int, Option.getD_some, Option.map_some, ↓wA, ↓wC, wB, frzBE, frzBS, Nat.reduceEqDiff, Nat.reduceAdd, Nat.reduceSub, reduceIte, reduceCtorEq, Nat.reduceBEq, Nat.reduceLT, decide_true])
              | (refine callM_det hSo rfl rfl rfl ?_)
              | (with_reducible refine onC_i ?_ ?_; focus omega)
              | (with_reducible refine onC_i ?_ ?_; focus (simp; done))
              | (refine execG_split (fun h => ?_) (fun h => ?_) <;> simp only [h])
              | (refine execC_split (fun h => ?_) (fun h => ?_) <;> (try simp only [h]))
              | (refine onPick_split (fun h => ?_) (fun h => ?_) <;> (try simp only [h])))
          refine exec_gh _ (unlink 0 (some i) [3] (es := 1) (xs := dl iD x.a) rfl (by simp only [obPart, hgs, Option.bind_some, dget_p3])) fun v3 => ?_
          simp only [obSet, hgs, Option.getD_some, dset_p3, setN_setN, ↓wA, ↓wC, wB, frzBE, frzBS, Nat.reduceEqDiff, Nat.reduceAdd, Nat.reduceSub, reduceIte, reduceCtorEq, Nat.reduceBEq, Nat.reduceLT, decide_true]
          repeat' (first
              | (simp only [h0, Int.toNat_natCast, hgs, onC_true, rd_p, size_p, isV_p, noOwn_p, hln, hls, doff_p3, dget_p3, dset_p3, doff_p4, dget_p4, dset_p4, doff_p5, dget_p5, dset_p5, dl_len, hc, setN_setN, app_int, Option.getD_some, Option.map_some, ↓wA, ↓wC, wB, frzBE, frzBS, Nat.reduceEqDiff, Nat.reduceAdd, Nat.reduceSub, reduceIte, reduceCtorEq, Nat.reduceBEq, Nat.reduceLT, decide_true])
              | (with_reducible refine onC_i ?_ ?_; focus omega)
              | (with_reducible refine onC_i ?_ ?_; focus (simp; done))
              | (refine execG_split (fun h => ?_) (fun h => ?_) <;> simp only [h])
              | (refine execC_split (fun h => ?_) (fun h => ?_) <;> (try simp only [h]))
              | (refine onPick_split (fun h => ?_) (fun h => ?_) <;> (try simp only [h])))
          refine exec_gh1 (relink 0 5 4 (some i) [4] rfl (by simp only [obPart, hgs, Option.bind_some, dget_p4]) rfl rfl (by decide) rfl) ?_
          simp only [obSet, hgs, Option.getD_some, dset_p4, setN_setN, ↓wA, ↓wC, wB, frzBE, frzBS, Nat.reduceEqDiff, Nat.reduceAdd, Nat.reduceSub, reduceIte, reduceCtorEq, Nat.reduceBEq, Nat.reduceLT, decide_true]
          refine exec_gh1 (relink 0 7 6 (some i) [3] rfl (by simp only [obPart, hgs, Option.bind_some, dget_p3]) rfl rfl (by decide) rfl) ?_
          simp only [obSet, hgs, Option.getD_some, dset_p3, setN_setN, ↓wA, ↓wC, wB, frzBE, frzBS, Nat.reduceEqDiff, Nat.reduceAdd, Nat.reduceSub, reduceIte, reduceCtorEq, Nat.reduceBEq, Nat.reduceLT, decide_true]
          rw [ek, dl_setN]
          rfl
end Go.Pe.Try
