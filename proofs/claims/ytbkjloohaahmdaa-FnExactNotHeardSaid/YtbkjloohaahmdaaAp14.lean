/- Marks on lists of appeals, walked. -/
import Derived.Test.YtbkjloohaahmdaaAp11
import Derived.Test.YtbkjloohaahmdaaMk1
set_option maxRecDepth 100000
set_option maxHeartbeats 4000000
set_option linter.all false
namespace Go.Pe.Try
open Go.Proofs.Try
/-- an appeal with parts of one's own. -/
def App.p (x : App) (da dh : D) : D := .st (.cons (.int .i64 x.i) (.cons (.int .i64 x.q) (.cons (.int .i64 x.d) (.cons da (.cons dh (.cons (.int .i64 x.s) .nil))))))
def App.o (x : App) : D := x.p (.sl true 1 (dl iD x.a)) (.sl true 1 (dl iD x.h))
def mA (k : Int) (x : App) : App := ⟨k, k + 1, k + 2, ups x.a.length (k + 3), ups x.h.length (k + 3 + x.a.length), k + 3 + x.a.length + x.h.length⟩
def sA (x : App) : Int := 4 + x.a.length + x.h.length
def markL : Int → List App → List App
  | _, [] => []
  | k, x :: xs => mA k x :: markL (k + sA x) xs
def sumL : List App → Int
  | [] => 0
  | x :: xs => sA x + sumL xs
theorem markL_len : ∀ (k : Int) (xs : List App), (markL k xs).length = xs.length
  | _, [] => rfl
  | k, x :: xs => by simp [markL, markL_len]
theorem markL_snoc : ∀ (k : Int) (xs : List App) (x : App), markL k (xs ++ [x]) = markL k xs ++ [mA (k + sumL xs) x]
  | k, [], x => by simp [markL, sumL]
  | k, y :: ys, x => by
    simp only [List.cons_append, markL, markL_snoc, sumL]
    rw [Int.add_assoc]
theorem sumL_snoc : ∀ (xs : List App) (x : App), sumL (xs ++ [x]) = sumL xs + sA x
  | [], x => by simp [sumL]
  | y :: ys, x => by simp only [List.cons_append, sumL, sumL_snoc]; omega
theorem take_snoc {α : Type} {xs : List α} {i : Nat} {r : α} (hr : xs[i]? = some r) : xs.take (i + 1) = xs.take i ++ [r] := by
  have hi := lt_of_get hr
  rw [List.take_succ_eq_append_getElem hi]
  rw [List.getElem?_eq_getElem hi] at hr
  injection hr with hr
  rw [hr]
theorem sumL_bd : ∀ (xs : List App), (∀ x ∈ xs, x.ok0) → 0 ≤ sumL xs ∧ sumL xs ≤ 3000000 * xs.length
  | [], _ => by simp [sumL]
  | x :: xs, h => by
    have h1 := sumL_bd xs fun y hy => h y (List.mem_cons_of_mem _ hy)
    have h2 := h x (List.mem_cons_self ..)
    unfold App.ok0 at h2
    simp only [sumL, sA, List.length_cons]
    omega
theorem dset_p0 {x : App} {da dh : D} {k : Int} : dset [0] (x.p da dh) (.int .i64 k) = App.p { x with i := k } da dh := rfl
theorem dset_p1 {x : App} {da dh : D} {k : Int} : dset [1] (x.p da dh) (.int .i64 k) = App.p { x with q := k } da dh := rfl
theorem dset_p2 {x : App} {da dh : D} {k : Int} : dset [2] (x.p da dh) (.int .i64 k) = App.p { x with d := k } da dh := rfl
theorem dset_p5 {x : App} {da dh : D} {k : Int} : dset [5] (x.p da dh) (.int .i64 k) = App.p { x with s := k } da dh := rfl
theorem doff_p0 {x : App} {da dh : D} : doff [0] (x.p da dh) = 0 := rfl
theorem doff_p1 {x : App} {da dh : D} : doff [1] (x.p da dh) = 1 := rfl
theorem doff_p2 {x : App} {da dh : D} : doff [2] (x.p da dh) = 2 := rfl
theorem doff_p3 {x : App} {da dh : D} : doff [3] (x.p da dh) = 3 := rfl
theorem doff_p4 {x : App} {da dh : D} (h : da.size = 1) : doff [4] (x.p da dh) = 4 := by simp [doff, App.p, D.pre, D.nth, D.size, h]
theorem doff_p5 {x : App} {da dh : D} (h : da.size = 1) (h2 : dh.size = 1) : doff [5] (x.p da dh) = 5 := by simp [doff, App.p, D.pre, D.nth, D.size, h, h2]
theorem dget_p0 {x : App} {da dh : D} : dget [0] (x.p da dh) = some (.int .i64 x.i) := rfl
theorem dget_p1 {x : App} {da dh : D} : dget [1] (x.p da dh) = some (.int .i64 x.q) := rfl
theorem dget_p2 {x : App} {da dh : D} : dget [2] (x.p da dh) = some (.int .i64 x.d) := rfl
theorem dget_p3 {x : App} {da dh : D} : dget [3] (x.p da dh) = some da := rfl
theorem dget_p4 {x : App} {da dh : D} : dget [4] (x.p da dh) = some dh := rfl
theorem dget_p5 {x : App} {da dh : D} : dget [5] (x.p da dh) = some (.int .i64 x.s) := rfl
theorem dset_p3 {x : App} {da dh u : D} : dset [3] (x.p da dh) u = x.p u dh := rfl
theorem dset_p4 {x : App} {da dh u : D} : dset [4] (x.p da dh) u = x.p da u := rfl
theorem setN_setN : ∀ (xs : D) (i : Nat) (y z : D), (xs.setN i y).setN i z = xs.setN i z := by
  intro xs
  induction xs with
  | cons a xs ih1 ih2 => intro i y z; cases i with
    | zero => rfl
    | succ i => simp only [D.setN]; rw [ih2]
  | _ => intro i y z; cases i <;> rfl
theorem markAppealS_fn (xs : List App) (k : Int) (h0 : 0 ≤ k) (h1 : k ≤ 1000) (hlen : xs.length ≤ 1048576) (hx : ∀ x ∈ xs, x.ok0) : FnM prog 13 false (.sl true 6 (dl App.o xs)) [.int .i64 k] (fun x' rs => x' = .sl true 6 (dl App.o (markL k xs)) ∧ rs = [.int .i64 (k + sumL xs)]) := by
  refine FnM_ofg (ps := [[1, 0, 1, 0, 0, 1, 0, 0, 1, 1, 1, 1, 1, 1, 1, 1, 0], [1, 0, 1, 0, 0, 1, 0, 0, 1, 1, 1, 1, 1, 1, 1, 0], [1, 0, 1, 0, 0, 1, 0, 0, 1, 1, 1, 1, 1, 1, 1, 0], [1, 0, 1, 0, 0, 1, 0, 0, 1, 1, 1, 1, 1, 1, 0]]) (fn := f13) (by exact func13) c13 r13 (n := 55) (by rfl) (rv := [.tmp 4]) (by rfl) (by decide) (by simp) ?_
  unfold m13
  simp only [ghAll, ghAt]
  simp only [dl_len, ↓wA, ↓wC, wB, frzBE, frzBS, Nat.reduceEqDiff, Nat.reduceAdd, Nat.reduceSub, reduceIte, reduceCtorEq, Nat.reduceBEq, Nat.reduceLT, decide_true]
  refine exec_range xs.length (fun i : Nat => ⟨[(0, .own 0), (1, .d (.int .i64 (k + sumL (xs.take i)))), (5, .d (.int .i64 i))], [.val (.sl true 6 (dl App.o (markL k (xs.take i) ++ xs.drop i)))]⟩) (fun _ => True) (weak_of [] rfl ⟨⟨rfl, rfl⟩, ⟨congrArg (fun n => SV.d (.int .i64 n)) (by simp [sumL]), rfl⟩, ⟨rfl, rfl⟩, trivial⟩) trivial ?_ ?_
  · intro i hlt _ hd hi0
    obtain ⟨x, hr⟩ := get_lt hlt
    have hL : (markL k (xs.take i) ++ xs.drop i)[i]? = some x := by
      rw [List.getElem?_append_right (by rw [markL_len]; simp; omega), markL_len, List.length_take, Nat.min_eq_left (by omega), Nat.sub_self, List.getElem?_drop]; exact hr
    have hll : (markL k (xs.take i) ++ xs.drop i).length = xs.length := by rw [List.length_append, markL_len, List.length_take, List.length_drop]; omega
    have hb := sumL_bd (xs.take i) (fun y hy => hx y (List.mem_of_mem_take hy))
    have hbl : (xs.take i).length ≤ 1048576 := by simp; omega
    generalize hK : k + sumL (xs.take i) = K
    have hK0 : 0 ≤ K := by omega
    have hK1 : K ≤ 10000000000000 := by omega
    have hgs : ∀ {f : App → D} (y : D), ((dl f (markL k (xs.take i) ++ xs.drop i)).setN i y).nth i = some y := fun y => by rw [setN_nth, if_pos rfl, dl_nth, hL]; rfl
    repeat' (first
        | (simp only [dl_len, hll, hd, hi0, dl_nth, Int.toNat_natCast, hL, Option.map_some, onC_true, App.o, hgs, setN_len, dset_p0, dset_p1, dset_p2, doff_p0, doff_p1, doff_p2, doff_p3, doff_p4, doff_p5, dget_p0, dget_p1, dget_p2, dget_p3, dget_p4, dget_p5, setN_setN, ↓wA, ↓wC, wB, frzBE, frzBS, Nat.reduceEqDiff, Nat.reduceAdd, Nat.reduceSub, reduceIte, reduceCtorEq, Nat.reduceBEq, Nat.reduceLT, decide_true])
        | (refine onI_bare (by simp only [InR]; omega) ?_)
        | (refine execG_split (fun h => ?_) (fun h => ?_) <;> simp only [h])
        | (refine execC_split (fun h => ?_) (fun h => ?_) <;> (try simp only [h]))
        | (refine onPick_split (fun h => ?_) (fun h => ?_) <;> (try simp only [h])))
    have hxo := hx x (List.mem_of_getElem? hr)
    have hx1 := hxo.1
    have hx2 := hxo.2
    refine exec_gh _ (unlink 0 (some i) [3] (es := 1) (xs := dl iD x.a) rfl (by simp only [obPart, hgs, Option.bind_some, dget_p3])) fun v => ?_
    have m1 := markI_fn x.a (K + 1 + 1 + 1) (by omega) (by omega) hx1
    repeat' (first
        | (simp only [dl_len, hll, hd, hi0, dl_nth, Int.toNat_natCast, hL, Option.map_some, onC_true, hgs, setN_len, dset_p0, dset_p1, dset_p2, dset_p3, dset_p4, dset_p5, doff_p0, doff_p1, doff_p2, doff_p3, doff_p4, doff_p5, dget_p0, dget_p1, dget_p2, dget_p3, dget_p4, dget_p5, setN_setN, obSet, Option.getD_some, ↓wA, ↓wC, wB, frzBE, frzBS, Nat.reduceEqDiff, Nat.reduceAdd, Nat.reduceSub, reduceIte, reduceCtorEq, Nat.reduceBEq, Nat.reduceLT, decide_true])
        | (refine onI_bare (by simp only [InR]; omega) ?_)
        | (refine execG_split (fun h => ?_) (fun h => ?_) <;> simp only [h])
        | (refine execC_split (fun h => ?_) (fun h => ?_) <;> (try simp only [h]))
        | (refine onPick_split (fun h => ?_) (fun h => ?_) <;> (try simp only [h])))
    refine callM_det m1 rfl rfl rfl ?_
    repeat' (first
        | (simp only [dl_len, hll, hd, hi0, dl_nth, Int.toNat_natCast, hL, Option.map_some, onC_true, hgs, setN_len, dset_p0, dset_p1, dset_p2, dset_p3, dset_p4, dset_p5, doff_p0, doff_p1, doff_p2, doff_p3, doff_p4, doff_p5, dget_p0, dget_p1, dget_p2, dget_p3, dget_p4, dget_p5, setN_setN, obSet, Option.getD_some, ↓wA, ↓wC, wB, frzBE, frzBS, Nat.reduceEqDiff, Nat.reduceAdd, Nat.reduceSub, reduceIte, reduceCtorEq, Nat.reduceBEq, Nat.reduceLT, decide_true])
        | (refine onI_bare (by simp only [InR]; omega) ?_)
        | (refine execG_split (fun h => ?_) (fun h => ?_) <;> simp only [h])
        | (refine execC_split (fun h => ?_) (fun h => ?_) <;> (try simp only [h]))
        | (refine onPick_split (fun h => ?_) (fun h => ?_) <;> (try simp only [h])))
    refine exec_gh1 (relink 0 2 1 (some i) [3] rfl (by simp only [obPart, hgs, Option.bind_some, dget_p3]) rfl rfl (by decide) rfl) ?_
    simp only [dl_len, hll, hd, hi0, dl_nth, Int.toNat_natCast, hL, Option.map_some, onC_true, hgs, setN_len, dset_p0, dset_p1, dset_p2, dset_p3, dset_p4, dset_p5, doff_p0, doff_p1, doff_p2, doff_p3, doff_p4, doff_p5, dget_p0, dget_p1, dget_p2, dget_p3, dget_p4, dget_p5, setN_setN, obSet, Option.getD_some, ↓wA, ↓wC, wB, frzBE, frzBS, Nat.reduceEqDiff, Nat.reduceAdd, Nat.reduceSub, reduceIte, reduceCtorEq, Nat.reduceBEq, Nat.reduceLT, decide_true]
    refine exec_gh _ (unlink 0 (some i) [4] (es := 1) (xs := dl iD x.h) rfl (by simp only [obPart, hgs, Option.bind_some, dget_p4])) fun v2 => ?_
    have m2 := markI_fn x.h (K + 1 + 1 + 1 + x.a.length) (by omega) (by omega) hx2
    repeat' (first
        | (simp only [dl_len, hll, hd, hi0, dl_nth, Int.toNat_natCast, hL, Option.map_some, onC_true, hgs, setN_len, dset_p0, dset_p1, dset_p2, dset_p3, dset_p4, dset_p5, doff_p0, doff_p1, doff_p2, doff_p3, doff_p4, doff_p5, dget_p0, dget_p1, dget_p2, dget_p3, dget_p4, dget_p5, setN_setN, obSet, Option.getD_some, ↓wA, ↓wC, wB, frzBE, frzBS, Nat.reduceEqDiff, Nat.reduceAdd, Nat.reduceSub, reduceIte, reduceCtorEq, Nat.reduceBEq, Nat.reduceLT, decide_true])
        | (refine onI_bare (by simp only [InR]; omega) ?_)
        | (refine execG_split (fun h => ?_) (fun h => ?_) <;> simp only [h])
        | (refine execC_split (fun h => ?_) (fun h => ?_) <;> (try simp only [h]))
        | (refine onPick_split (fun h => ?_) (fun h => ?_) <;> (try simp only [h])))
    refine callM_det m2 rfl rfl rfl ?_
    repeat' (first
        | (simp only [dl_len, hll, hd, hi0, dl_nth, Int.toNat_natCast, hL, Option.map_some, onC_true, hgs, setN_len, dset_p0, dset_p1, dset_p2, dset_p3, dset_p4, dset_p5, doff_p0, doff_p1, doff_p2, doff_p3, doff_p4, doff_p5, dget_p0, dget_p1, dget_p2, dget_p3, dget_p4, dget_p5, setN_setN, obSet, Option.getD_some, ↓wA, ↓wC, wB, frzBE, frzBS, Nat.reduceEqDiff, Nat.reduceAdd, Nat.reduceSub, reduceIte, reduceCtorEq, Nat.reduceBEq, Nat.reduceLT, decide_true])
        | (refine onI_bare (by simp only [InR]; omega) ?_)
        | (refine execG_split (fun h => ?_) (fun h => ?_) <;> simp only [h])
        | (refine execC_split (fun h => ?_) (fun h => ?_) <;> (try simp only [h]))
        | (refine onPick_split (fun h => ?_) (fun h => ?_) <;> (try simp only [h])))
    refine exec_gh1 (relink 0 4 3 (some i) [4] rfl (by simp only [obPart, hgs, Option.bind_some, dget_p4]) rfl rfl (by decide) rfl) ?_
    repeat' (first
        | (simp only [dl_len, hll, hd, hi0, dl_nth, Int.toNat_natCast, hL, Option.map_some, onC_true, hgs, setN_len, dset_p0, dset_p1, dset_p2, dset_p3, dset_p4, dset_p5, doff_p0, doff_p1, doff_p2, doff_p3, doff_p4, doff_p5, dget_p0, dget_p1, dget_p2, dget_p3, dget_p4, dget_p5, setN_setN, obSet, Option.getD_some, ↓wA, ↓wC, wB, frzBE, frzBS, Nat.reduceEqDiff, Nat.reduceAdd, Nat.reduceSub, reduceIte, reduceCtorEq, Nat.reduceBEq, Nat.reduceLT, decide_true])
        | (refine onI_bare (by simp only [InR]; omega) ?_)
        | (refine execG_split (fun h => ?_) (fun h => ?_) <;> simp only [h])
        | (refine execC_split (fun h => ?_) (fun h => ?_) <;> (try simp only [h]))
        | (refine onPick_split (fun h => ?_) (fun h => ?_) <;> (try simp only [h])))
    have e2 : K + 1 + 1 = K + 2 := by omega
    have e3 : K + 1 + 1 + 1 = K + 3 := by omega
    have ex : App.p { i := K, q := K + 1, d := K + 1 + 1, a := x.a, h := x.h, s := K + 1 + 1 + 1 + x.a.length + x.h.length } (.sl true 1 (dl iD (ups x.a.length (K + 1 + 1 + 1)))) (.sl true 1 (dl iD (ups x.h.length (K + 1 + 1 + 1 + x.a.length)))) = App.o (mA K x) := by
      rw [e3, e2]; rfl
    have el : (markL k (xs.take i) ++ xs.drop i).set i (mA K x) = markL k (xs.take (i + 1)) ++ xs.drop (i + 1) := by
      rw [List.set_append_right _ _ (by rw [markL_len]; simp; omega), markL_len, List.length_take, Nat.min_eq_left (by omega), Nat.sub_self, adrop_get hr, List.set_cons_zero, take_snoc hr, markL_snoc, hK, List.append_assoc]
      rfl
    have es : K + 1 + 1 + 1 + x.a.length + x.h.length + 1 = k + sumL (xs.take (i + 1)) := by
      rw [take_snoc hr, sumL_snoc, ← Int.add_assoc, hK, sA]; omega
    rw [ex, dl_setN, el, es]
    exact ⟨i + 1, (weak_of _ rfl ⟨⟨rfl, rfl⟩, ⟨rfl, rfl⟩, ⟨rfl, rfl⟩, trivial⟩), by omega, by omega⟩
  · intro _ hd
    have e1 : xs.take xs.length = xs := List.take_length
    have e2 : (markL k (xs.take xs.length) ++ xs.drop xs.length) = markL k xs := by rw [e1, List.drop_length, List.append_nil]
    rw [e2, e1]
    simp only [dl_len, markL_len, hd, ↓wA, ↓wC, wB, frzBE, frzBS, Nat.reduceEqDiff, Nat.reduceAdd, Nat.reduceSub, reduceIte, reduceCtorEq, Nat.reduceBEq, Nat.reduceLT, decide_true]
end Go.Pe.Try
