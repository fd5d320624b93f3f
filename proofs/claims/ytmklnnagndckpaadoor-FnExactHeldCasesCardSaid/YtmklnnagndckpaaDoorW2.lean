/- Marks on offices, walked; The cases of an office of which something is so; those that are due, blocked, held; walked; The laws of DueCases and BlockedCases -/
import Derived.Test.YtmklnnagndckpaaDoorW1
set_option maxRecDepth 100000
set_option maxHeartbeats 4000000
set_option linter.all false
namespace Go.Pe.Tryd
open Go.Proofs.Tryd
def mC (k : Int) (x : Cs) : Cs := ⟨k, k + 1, k + 2, ups x.h.length (k + 3)⟩
def sC (x : Cs) : Int := 3 + x.h.length
def markC : Int → List Cs → List Cs
  | _, [] => []
  | k, x :: xs => mC k x :: markC (k + sC x) xs
def sumC : List Cs → Int
  | [] => 0
  | x :: xs => sC x + sumC xs
theorem markC_len : ∀ (k : Int) (xs : List Cs), (markC k xs).length = xs.length
  | _, [] => rfl
  | k, x :: xs => by simp [markC, markC_len]
theorem markC_snoc : ∀ (k : Int) (xs : List Cs) (x : Cs), markC k (xs ++ [x]) = markC k xs ++ [mC (k + sumC xs) x]
  | k, [], x => by simp [markC, sumC]
  | k, y :: ys, x => by
    simp only [List.cons_append, markC, markC_snoc, sumC]
    rw [Int.add_assoc]
theorem sumC_snoc : ∀ (xs : List Cs) (x : Cs), sumC (xs ++ [x]) = sumC xs + sC x
  | [], x => by simp [sumC]
  | y :: ys, x => by simp only [List.cons_append, sumC, sumC_snoc]; omega
theorem sumC_bd : ∀ (xs : List Cs), (∀ x ∈ xs, x.ok0) → 0 ≤ sumC xs ∧ sumC xs ≤ 2000000 * xs.length
  | [], _ => by simp [sumC]
  | x :: xs, h => by
    have h1 := sumC_bd xs fun y hy => h y (List.mem_cons_of_mem _ hy)
    have h2 := h x (List.mem_cons_self ..)
    unfold Cs.ok0 at h2
    simp only [sumC, sC, List.length_cons]
    omega
theorem dset_q0 {x : Cs} {dh : D} {k : Int} : dset [0] (x.p dh) (.int .i64 k) = Cs.p { x with i := k } dh := rfl
theorem dset_q1 {x : Cs} {dh : D} {k : Int} : dset [1] (x.p dh) (.int .i64 k) = Cs.p { x with a := k } dh := rfl
theorem dset_q2 {x : Cs} {dh : D} {k : Int} : dset [2] (x.p dh) (.int .i64 k) = Cs.p { x with d := k } dh := rfl
theorem dset_q3 {x : Cs} {dh u : D} : dset [3] (x.p dh) u = x.p u := rfl
theorem doff_q0 {x : Cs} {dh : D} : doff [0] (x.p dh) = 0 := rfl
theorem doff_q1 {x : Cs} {dh : D} : doff [1] (x.p dh) = 1 := rfl
theorem doff_q2 {x : Cs} {dh : D} : doff [2] (x.p dh) = 2 := rfl
theorem doff_q3 {x : Cs} {dh : D} : doff [3] (x.p dh) = 3 := rfl
theorem dget_q0 {x : Cs} {dh : D} : dget [0] (x.p dh) = some (.int .i64 x.i) := rfl
theorem dget_q1 {x : Cs} {dh : D} : dget [1] (x.p dh) = some (.int .i64 x.a) := rfl
theorem dget_q2 {x : Cs} {dh : D} : dget [2] (x.p dh) = some (.int .i64 x.d) := rfl
theorem dget_q3 {x : Cs} {dh : D} : dget [3] (x.p dh) = some dh := rfl
theorem setN_setN : ∀ (xs : D) (i : Nat) (y z : D), (xs.setN i y).setN i z = xs.setN i z := by
  intro xs
  induction xs with
  | cons a xs ih1 ih2 => intro i y z; cases i with
    | zero => rfl
    | succ i => simp only [D.setN]; rw [ih2]
  | _ => intro i y z; cases i <;> rfl
theorem cdrop_get {xs : List Cs} {i : Nat} {x : Cs} (hr : xs[i]? = some x) : xs.drop i = x :: xs.drop (i + 1) := by
  have hi := lt_of_get hr
  rw [List.drop_eq_getElem_cons hi]
  rw [List.getElem?_eq_getElem hi] at hr
  injection hr with hr
  rw [hr]
theorem markCaseS_fn (xs : List Cs) (k : Int) (h0 : 0 ≤ k) (h1 : k ≤ 1000) (hlen : xs.length ≤ 1048576) (hx : ∀ x ∈ xs, x.ok0) : FnM prog 41 false (.sl true 4 (dl Cs.o xs)) [.int .i64 k] (fun x' rs => x' = .sl true 4 (dl Cs.o (markC k xs)) ∧ rs = [.int .i64 (k + sumC xs)]) := by
  refine FnM_ofg (ps := [[1, 0, 1, 0, 0, 1, 0, 0, 1, 1, 1, 1, 1, 1], [1, 0, 1, 0, 0, 1, 1]]) (fn := f41) (by exact func41) c41 r41 (n := 41) (by rfl) (rv := [.tmp 4]) (by rfl) (by decide) (by simp) ?_
  unfold m41
  simp only [ghAll, ghAt]
  simp only [dl_len, ↓wA, ↓wC, wB, frzBE, frzBS, Nat.reduceEqDiff, Nat.reduceAdd, Nat.reduceSub, reduceIte, reduceCtorEq, Nat.reduceBEq, Nat.reduceLT, decide_true]
  refine exec_range xs.length (fun i : Nat => ⟨[(0, .own 0), (1, .d (.int .i64 (k + sumC (xs.take i)))), (5, .d (.int .i64 i))], [.val (.sl true 4 (dl Cs.o (markC k (xs.take i) ++ xs.drop i)))]⟩) (fun _ => True) (weak_of [] rfl ⟨⟨rfl, rfl⟩, ⟨congrArg (fun n => SV.d (.int .i64 n)) (by simp [sumC]), rfl⟩, ⟨rfl, rfl⟩, trivial⟩) trivial ?_ ?_
  · intro i hlt _ hd hi0
    obtain ⟨x, hr⟩ := get_lt hlt
    have hL : (markC k (xs.take i) ++ xs.drop i)[i]? = some x := by
      rw [List.getElem?_append_right (by rw [markC_len]; simp; omega), markC_len, List.length_take, Nat.min_eq_left (by omega), Nat.sub_self, List.getElem?_drop]; exact hr
    have hll : (markC k (xs.take i) ++ xs.drop i).length = xs.length := by rw [List.length_append, markC_len, List.length_take, List.length_drop]; omega
    have hb := sumC_bd (xs.take i) (fun y hy => hx y (List.mem_of_mem_take hy))
    have hbl : (xs.take i).length ≤ 1048576 := by simp; omega
    generalize hK : k + sumC (xs.take i) = K
    have hK0 : 0 ≤ K := by omega
    have hK1 : K ≤ 10000000000000 := by omega
    have hgs : ∀ {f : Cs → D} (y : D), ((dl f (markC k (xs.take i) ++ xs.drop i)).setN i y).nth i = some y := fun y => by rw [setN_nth, if_pos rfl, dl_nth, hL]; rfl
    repeat' (first
        | (simp only [dl_len, hll, hd, hi0, dl_nth, Int.toNat_natCast, hL, Option.map_some, onC_true, hgs, setN_len, dset_q0, dset_q1, dset_q2, dset_q3, doff_q0, doff_q1, doff_q2, doff_q3, dget_q0, dget_q1, dget_q2, dget_q3, setN_setN, Cs.o, ↓wA, ↓wC, wB, frzBE, frzBS, Nat.reduceEqDiff, Nat.reduceAdd, Nat.reduceSub, reduceIte, reduceCtorEq, Nat.reduceBEq, Nat.reduceLT, decide_true])
        | (refine onI_bare (by simp only [InR]; omega) ?_)
        | (refine execG_split (fun h => ?_) (fun h => ?_) <;> simp only [h])
        | (refine execC_split (fun h => ?_) (fun h => ?_) <;> (try simp only [h]))
        | (refine onPick_split (fun h => ?_) (fun h => ?_) <;> (try simp only [h])))
    have hxo := hx x (List.mem_of_getElem? hr)
    refine exec_gh _ (unlink 0 (some i) [3] (es := 1) (xs := dl iD x.h) rfl (by simp only [obPart, hgs, Option.bind_some, dget_q3])) fun v => ?_
    have m1 := markI_fn x.h (K + 1 + 1 + 1) (by omega) (by omega) hxo
    repeat' (first
        | (simp only [dl_len, hll, hd, hi0, dl_nth, Int.toNat_natCast, hL, Option.map_some, onC_true, hgs, setN_len, dset_q0, dset_q1, dset_q2, dset_q3, doff_q0, doff_q1, doff_q2, doff_q3, dget_q0, dget_q1, dget_q2, dget_q3, setN_setN, obSet, Option.getD_some, ↓wA, ↓wC, wB, frzBE, frzBS, Nat.reduceEqDiff, Nat.reduceAdd, Nat.reduceSub, reduceIte, reduceCtorEq, Nat.reduceBEq, Nat.reduceLT, decide_true])
        | (refine onI_bare (by simp only [InR]; omega) ?_)
        | (refine execG_split (fun h => ?_) (fun h => ?_) <;> simp only [h])
        | (refine execC_split (fun h => ?_) (fun h => ?_) <;> (try simp only [h]))
        | (refine onPick_split (fun h => ?_) (fun h => ?_) <;> (try simp only [h])))
    refine callM_det m1 rfl rfl rfl ?_
    repeat' (first
        | (simp only [dl_len, hll, hd, hi0, dl_nth, Int.toNat_natCast, hL, Option.map_some, onC_true, hgs, setN_len, dset_q0, dset_q1, dset_q2, dset_q3, doff_q0, doff_q1, doff_q2, doff_q3, dget_q0, dget_q1, dget_q2, dget_q3, setN_setN, obSet, Option.getD_some, ↓wA, ↓wC, wB, frzBE, frzBS, Nat.reduceEqDiff, Nat.reduceAdd, Nat.reduceSub, reduceIte, reduceCtorEq, Nat.reduceBEq, Nat.reduceLT, decide_true])
        | (refine onI_bare (by simp only [InR]; omega) ?_)
        | (refine execG_split (fun h => ?_) (fun h => ?_) <;> simp only [h])
        | (refine execC_split (fun h => ?_) (fun h => ?_) <;> (try simp only [h]))
        | (refine onPick_split (fun h => ?_) (fun h => ?_) <;> (try simp only [h])))
    refine exec_gh1 (relink 0 2 1 (some i) [3] rfl (by simp only [obPart, hgs, Option.bind_some, dget_q3]) rfl rfl (by decide) rfl) ?_
    repeat' (first
        | (simp only [dl_len, hll, hd, hi0, dl_nth, Int.toNat_natCast, hL, Option.map_some, onC_true, hgs, setN_len, dset_q0, dset_q1, dset_q2, dset_q3, doff_q0, doff_q1, doff_q2, doff_q3, dget_q0, dget_q1, dget_q2, dget_q3, setN_setN, obSet, Option.getD_some, ↓wA, ↓wC, wB, frzBE, frzBS, Nat.reduceEqDiff, Nat.reduceAdd, Nat.reduceSub, reduceIte, reduceCtorEq, Nat.reduceBEq, Nat.reduceLT, decide_true])
        | (refine onI_bare (by simp only [InR]; omega) ?_)
        | (refine execG_split (fun h => ?_) (fun h => ?_) <;> simp only [h])
        | (refine execC_split (fun h => ?_) (fun h => ?_) <;> (try simp only [h]))
        | (refine onPick_split (fun h => ?_) (fun h => ?_) <;> (try simp only [h])))
    have e2 : K + 1 + 1 = K + 2 := by omega
    have e3 : K + 1 + 1 + 1 = K + 3 := by omega
    have ex : Cs.p { i := K, a := K + 1, d := K + 1 + 1, h := x.h } (.sl true 1 (dl iD (ups x.h.length (K + 1 + 1 + 1)))) = Cs.o (mC K x) := by
      rw [e3, e2]; rfl
    have el : (markC k (xs.take i) ++ xs.drop i).set i (mC K x) = markC k (xs.take (i + 1)) ++ xs.drop (i + 1) := by
      rw [List.set_append_right _ _ (by rw [markC_len]; simp; omega), markC_len, List.length_take, Nat.min_eq_left (by omega), Nat.sub_self, cdrop_get hr, List.set_cons_zero, take_get hr, markC_snoc, hK, List.append_assoc]
      rfl
    have es : K + 1 + 1 + 1 + x.h.length = k + sumC (xs.take (i + 1)) := by
      rw [take_get hr, sumC_snoc, ← Int.add_assoc, hK, sC]; omega
    rw [ex, dl_setN, el, es]
    exact ⟨i + 1, (weak_of _ rfl ⟨⟨rfl, rfl⟩, ⟨rfl, rfl⟩, ⟨rfl, rfl⟩, trivial⟩), by omega, by omega⟩
  · intro _ hd
    have e1 : xs.take xs.length = xs := List.take_length
    have e2 : (markC k (xs.take xs.length) ++ xs.drop xs.length) = markC k xs := by rw [e1, List.drop_length, List.append_nil]
    rw [e2, e1]
    simp only [dl_len, markC_len, hd, ↓wA, ↓wC, wB, frzBE, frzBS, Nat.reduceEqDiff, Nat.reduceAdd, Nat.reduceSub, reduceIte, reduceCtorEq, Nat.reduceBEq, Nat.reduceLT, decide_true]
/-- an office, marked. -/
def mO (k : Int) (o : Off) : Off := ⟨o.day, markC k o.cs, o.kept, o.moved, mups o.led.length (k + sumC o.cs)⟩
theorem markOffice_fn (o : Off) (k : Int) (h0 : 0 ≤ k) (h1 : k ≤ 1000) (ho : o.ok0) : FnM prog 17 false o.o [.int .i64 k] (fun x' rs => x' = (mO k o).o ∧ rs = [.int .i64 (k + sumC o.cs + o.led.length)]) := by
  have hb := sumC_bd o.cs ho.1.2
  have hbl := ho.1.1
  have m1 := markCaseS_fn o.cs k h0 h1 ho.1.1 ho.1.2
  have m2 := markS_fn o.led (k + sumC o.cs) (by omega) (by omega) ho.2.1
  refine FnM_ofg (ps := [[1, 1, 1, 1], [1, 1, 1, 1], [1, 1, 1, 1], [0], [0], [0]]) (fn := f17) (by exact func17) c17 r17 (n := 14) (by rfl) (rv := [.tmp 4]) (by rfl) (by decide) (by simp) ?_
  unfold m17
  simp only [ghAll, ghAt]
  simp only [Off.o, offP]
  refine exec_gh _ (unlink 0 none [1] (es := 4) (xs := dl Cs.o o.cs) rfl rfl) fun v1 => ?_
  simp only [obSet, ↓wA, ↓wC, wB, frzBE, frzBS, Nat.reduceEqDiff, Nat.reduceAdd, Nat.reduceSub, reduceIte, reduceCtorEq, Nat.reduceBEq, Nat.reduceLT, decide_true]
  refine exec_gh _ (unlink 0 none [4] (es := 1) (xs := dl D.str o.led) rfl rfl) fun v2 => ?_
  simp only [obSet, ↓wA, ↓wC, wB, frzBE, frzBS, Nat.reduceEqDiff, Nat.reduceAdd, Nat.reduceSub, reduceIte, reduceCtorEq, Nat.reduceBEq, Nat.reduceLT, decide_true]
  refine exec_gh1 (lend 0 0 rfl rfl rfl) ?_
  repeat' (first
      | (simp only [onC_true, ↓wA, ↓wC, wB, frzBE, frzBS, Nat.reduceEqDiff, Nat.reduceAdd, Nat.reduceSub, reduceIte, reduceCtorEq, Nat.reduceBEq, Nat.reduceLT, decide_true])
      | (refine execG_split (fun h => ?_) (fun h => ?_) <;> simp only [h])
      | (refine execC_split (fun h => ?_) (fun h => ?_) <;> (try simp only [h]))
      | (refine onPick_split (fun h => ?_) (fun h => ?_) <;> (try simp only [h])))
  refine callM_det m1 rfl rfl rfl ?_
  repeat' (first
      | (simp only [onC_true, ↓wA, ↓wC, wB, frzBE, frzBS, Nat.reduceEqDiff, Nat.reduceAdd, Nat.reduceSub, reduceIte, reduceCtorEq, Nat.reduceBEq, Nat.reduceLT, decide_true])
      | (refine execG_split (fun h => ?_) (fun h => ?_) <;> simp only [h])
      | (refine execC_split (fun h => ?_) (fun h => ?_) <;> (try simp only [h]))
      | (refine onPick_split (fun h => ?_) (fun h => ?_) <;> (try simp only [h])))
  refine callM_det m2 rfl rfl rfl ?_
  repeat' (first
      | (simp only [onC_true, ↓wA, ↓wC, wB, frzBE, frzBS, Nat.reduceEqDiff, Nat.reduceAdd, Nat.reduceSub, reduceIte, reduceCtorEq, Nat.reduceBEq, Nat.reduceLT, decide_true])
      | (refine execG_split (fun h => ?_) (fun h => ?_) <;> simp only [h])
      | (refine execC_split (fun h => ?_) (fun h => ?_) <;> (try simp only [h]))
      | (refine onPick_split (fun h => ?_) (fun h => ?_) <;> (try simp only [h])))
  refine exec_gh1 (unlend 0 0 rfl rfl rfl) ?_
  simp only [obSet, ↓wA, ↓wC, wB, frzBE, frzBS, Nat.reduceEqDiff, Nat.reduceAdd, Nat.reduceSub, reduceIte, reduceCtorEq, Nat.reduceBEq, Nat.reduceLT, decide_true]
  refine exec_gh1 (relink 0 2 1 none [1] rfl rfl rfl rfl (by decide) rfl) ?_
  simp only [obSet, ↓wA, ↓wC, wB, frzBE, frzBS, Nat.reduceEqDiff, Nat.reduceAdd, Nat.reduceSub, reduceIte, reduceCtorEq, Nat.reduceBEq, Nat.reduceLT, decide_true]
  refine exec_gh1 (relink 0 4 3 none [4] rfl rfl rfl rfl (by decide) rfl) ?_
  simp only [obSet, ↓wA, ↓wC, wB, frzBE, frzBS, Nat.reduceEqDiff, Nat.reduceAdd, Nat.reduceSub, reduceIte, reduceCtorEq, Nat.reduceBEq, Nat.reduceLT, decide_true]
  rfl
end Go.Pe.Tryd

set_option maxRecDepth 100000
set_option maxHeartbeats 4000000
set_option linter.all false
namespace Go.Pe.Tryd
open Go.Proofs.Tryd
theorem doff_o0 {x : Off} : doff [0] x.s = 0 := rfl
theorem doff_o1 {x : Off} : doff [1] x.s = 1 := rfl
theorem dget_o0 {x : Off} : dget [0] x.s = some (.int .i64 x.day) := rfl
theorem dget_o1 {x : Off} : dget [1] x.s = some (.sl false 4 (dl Cs.s x.cs)) := rfl
def idsOf (p : Cs → Bool) (xs : List Cs) : List Int := (xs.filter p).map Cs.i
theorem idsOf_snoc {p : Cs → Bool} {xs : List Cs} {i : Nat} {x : Cs} (hr : xs[i]? = some x) : idsOf p (xs.take (i + 1)) = idsOf p (xs.take i) ++ (if p x = true then [x.i] else []) := by
  unfold idsOf
  rw [take_get hr, List.filter_append, List.map_append]
  cases h : p x <;> simp [h]
theorem idsOf_len (p : Cs → Bool) (xs : List Cs) : (idsOf p xs).length ≤ xs.length := by
  unfold idsOf
  rw [List.length_map]
  exact List.length_filter_le _ _
theorem app_int (V : List Int) (n : Int) : (dl iD V).app (D.cons (.int .i64 n) .nil) = dl iD (V ++ [n]) := app_one (f := iD) V n
theorem casesBy_fn (p : Cs → Bool) (g : Nat) (c : D) (o : Off) (ho : o.ok0) (hc : c.caps = true) (he : enterOK prog.P g = true) (hp : ∀ x ∈ o.cs, Fn prog g (x.s :: c.list) (fun rs => rs = [.bool (p x)])) : Fn prog 39 [o.s, .clo g c] (fun rs => rs = [.sl true 1 (dl iD (idsOf p o.cs))]) := by
  have hlen := ho.1.1
  refine Fn_of' (fn := f39) (by exact func39) c39 r39 (n := 25) (by rfl) (rv := [.tmp 4]) (by rfl) (by simp) ?_
  unfold m39
  repeat' (first
      | (simp only [Off.s_noOwn, Off.s_isV, onC_true, dl_len, css_noOwn, doff_o1, dget_o1, ↓wA, ↓wC, wB, frzBE, frzBS, Nat.reduceEqDiff, Nat.reduceAdd, Nat.reduceSub, reduceIte, reduceCtorEq, Nat.reduceBEq, Nat.reduceLT, decide_true])
      | (refine execG_split (fun h => ?_) (fun h => ?_) <;> simp only [h])
      | (refine execC_split (fun h => ?_) (fun h => ?_) <;> (try simp only [h]))
      | (refine onPick_split (fun h => ?_) (fun h => ?_) <;> (try simp only [h])))
  refine exec_rangeN [(5, 1)] o.cs.length (fun i : Nat => ⟨[(1, .d (.clo g c)), (5, .own 1), (9, .d (.sl false 4 (dl Cs.s o.cs))), (10, .d (.int .i64 o.cs.length)), (11, .d (.int .i64 i))], [.box o.s, .val (.sl true 1 (dl iD (idsOf p (o.cs.take i))))]⟩) (fun _ => True) ⟨rfl, trivial⟩ ?_ trivial ?_ ?_
  · exact (weak_of _ rfl ⟨⟨rfl, rfl⟩, ⟨rfl, rfl⟩, ⟨rfl, rfl⟩, ⟨rfl, rfl⟩, ⟨rfl, rfl⟩, trivial⟩)
  · intro i hlt _ hd h0
    obtain ⟨x, hr⟩ := get_lt hlt
    have hW := hp x (List.mem_of_getElem? hr)
    have hsn := idsOf_snoc (p := p) hr
    have hvl := idsOf_len p (o.cs.take i)
    rw [List.length_take, Nat.min_eq_left (by omega)] at hvl
    repeat' (first
        | (simp only [dl_len, hd, h0, dl_nth, Int.toNat_natCast, hr, Option.map_some, onC_true, ↓rd_cs, Cs.s_isV, Cs.s_size, Cs.s_noOwn, ↓wA, ↓wC, wB, frzBE, frzBS, Nat.reduceEqDiff, Nat.reduceAdd, Nat.reduceSub, reduceIte, reduceCtorEq, Nat.reduceBEq, Nat.reduceLT, decide_true])
        | (refine execG_split (fun h => ?_) (fun h => ?_) <;> simp only [h])
        | (refine execC_split (fun h => ?_) (fun h => ?_) <;> (try simp only [h]))
        | (refine onPick_split (fun h => ?_) (fun h => ?_) <;> (try simp only [h])))
    refine callW_det (ds := [x.s]) hW he hc (by simp [argsD, argD, valOf, Cs.s_unown]) rfl ?_
    cases hw : p x with
    | false =>
      rw [hw] at hsn
      repeat' (first
          | (simp only [onC_true, ↓wA, ↓wC, wB, frzBE, frzBS, Nat.reduceEqDiff, Nat.reduceAdd, Nat.reduceSub, reduceIte, reduceCtorEq, Nat.reduceBEq, Nat.reduceLT, decide_true])
          | (with_reducible refine onI_bare ?_ ?_; focus (simp only [InR]; omega))
          | (refine execG_split (fun h => ?_) (fun h => ?_) <;> simp only [h])
          | (refine execC_split (fun h => ?_) (fun h => ?_) <;> (try simp only [h]))
          | (refine onPick_split (fun h => ?_) (fun h => ?_) <;> (try simp only [h])))
      refine ⟨i + 1, ?_, by omega, by omega⟩
      rw [hsn]
      simp only [Bool.false_eq_true, if_false, List.append_nil]
      exact (weak_of _ rfl ⟨⟨rfl, rfl⟩, ⟨rfl, rfl⟩, ⟨rfl, rfl⟩, ⟨rfl, rfl⟩, ⟨rfl, rfl⟩, trivial⟩)
    | true =>
      rw [hw] at hsn
      repeat' (first
          | (simp only [dl_len, onC_true, doff_s0, dget_s0, app_int, ↓wA, ↓wC, wB, frzBE, frzBS, Nat.reduceEqDiff, Nat.reduceAdd, Nat.reduceSub, reduceIte, reduceCtorEq, Nat.reduceBEq, Nat.reduceLT, decide_true])
          | (with_reducible refine onI_bare ?_ ?_; focus (simp only [InR]; omega))
          | (with_reducible refine onC_i ?_ ?_; focus omega)
          | (with_reducible refine onC_i ?_ ?_; focus (simp; done))
          | (refine execG_split (fun h => ?_) (fun h => ?_) <;> simp only [h])
          | (refine execC_split (fun h => ?_) (fun h => ?_) <;> (try simp only [h]))
          | (refine onPick_split (fun h => ?_) (fun h => ?_) <;> (try simp only [h])))
      refine ⟨i + 1, ?_, by omega, by omega⟩
      rw [hsn]
      simp only [if_true]
      exact (weak_of _ rfl ⟨⟨rfl, rfl⟩, ⟨rfl, rfl⟩, ⟨rfl, rfl⟩, ⟨rfl, rfl⟩, ⟨rfl, rfl⟩, trivial⟩)
  · intro _ hd
    repeat' (first
        | (simp only [hd, List.take_length, ↓wA, ↓wC, wB, frzBE, frzBS, Nat.reduceEqDiff, Nat.reduceAdd, Nat.reduceSub, reduceIte, reduceCtorEq, Nat.reduceBEq, Nat.reduceLT, decide_true])
        | (refine execG_split (fun h => ?_) (fun h => ?_) <;> simp only [h])
        | (refine execC_split (fun h => ?_) (fun h => ?_) <;> (try simp only [h]))
        | (refine onPick_split (fun h => ?_) (fun h => ?_) <;> (try simp only [h])))
/-! due -/
def hldB (n : Int) (x : Cs) : Bool := x.h.contains n
def hldR (n : Int) (o : Off) : List D := if offOK o = true ∧ within n 1 9 = true then [.sl true 1 (dl iD (idsOf (hldB n) o.cs)), .bool true] else [.sl true 1 .nil, .bool false]
theorem isHold_fn (n : Int) : Fn prog 46 [.int .i64 n] (fun rs => rs = [.bool (within n 1 9)]) := by
  refine Fn_of' (fn := f46) (by exact func46) c46 r46 (n := 5) (by rfl) (rv := [.tmp 2]) (by rfl) (by simp) ?_
  unfold m46
  repeat' (first
      | (simp only [↓wA, ↓wC, wB, frzBE, frzBS, Nat.reduceEqDiff, Nat.reduceAdd, Nat.reduceSub, reduceIte, reduceCtorEq, Nat.reduceBEq, Nat.reduceLT, decide_true])
      | (refine call_det (within_fn _ _ _) rfl rfl ?_)
      | (refine callP_det (within_fn _ _ _) rfl rfl ?_)
      | (refine execG_split (fun h => ?_) (fun h => ?_) <;> simp only [h])
      | (refine execC_split (fun h => ?_) (fun h => ?_) <;> (try simp only [h]))
      | (refine onPick_split (fun h => ?_) (fun h => ?_) <;> (try simp only [h])))
theorem hldClo_fn (n : Int) (x : Cs) (hx : x.ok0) : Fn prog 47 [x.s, .ptr (.int .i64 n)] (fun rs => rs = [.bool (hldB n x)]) := by
  have h := containsI_fn x.h n hx
  refine Fn_of' (fn := f47) (by exact func47) c47 r47 (n := 8) (by rfl) (rv := [.tmp 3]) (by rfl) (by simp) ?_
  unfold m47
  repeat' (first
      | (simp only [ints_noOwn, onC_true, Cs.s_noOwn, Cs.s_isV, doff_s3, dget_s3, ↓wA, ↓wC, wB, frzBE, frzBS, Nat.reduceEqDiff, Nat.reduceAdd, Nat.reduceSub, reduceIte, reduceCtorEq, Nat.reduceBEq, Nat.reduceLT, decide_true])
      | (refine call_det (h) rfl rfl ?_)
      | (refine callP_det (h) rfl rfl ?_)
      | (refine execG_split (fun h => ?_) (fun h => ?_) <;> simp only [h])
      | (refine execC_split (fun h => ?_) (fun h => ?_) <;> (try simp only [h]))
      | (refine onPick_split (fun h => ?_) (fun h => ?_) <;> (try simp only [h])))
  all_goals rfl
theorem implHeld_fn (o : Off) (n : Int) (ho : o.ok0) : Fn prog 23 [o.s, .int .i64 n] (fun rs => rs = hldR n o) := by
  have hV := isOffice_fn o ho
  have hN := isHold_fn n
  have h := casesBy_fn (hldB n) 47 (.cons (.ptr (.int .i64 n)) .nil) o ho rfl en47 (fun x hx => hldClo_fn n x (ho.1.2 x hx))
  unfold hldR
  cases hv : offOK o with
  | false =>
    rw [hv] at hV
    refine Fn_of' (fn := f23) (by exact func23) c23 r23 (n := 17) (by rfl) (rv := [.tmp 4, .tmp 5]) (by rfl) (by simp) ?_
    unfold m23
    repeat' (first
        | (simp only [Off.s_noOwn, Off.s_isV, ↓rd_off, onC_true, ↓wA, ↓wC, wB, frzBE, frzBS, Nat.reduceEqDiff, Nat.reduceAdd, Nat.reduceSub, reduceIte, reduceCtorEq, Nat.reduceBEq, Nat.reduceLT, decide_true])
        | (refine call_det hV (by simp [argsD, argD, Off.s_unown]) rfl ?_)
        | (refine execG_split (fun h => ?_) (fun h => ?_) <;> simp only [h])
        | (refine execC_split (fun h => ?_) (fun h => ?_) <;> (try simp only [h]))
        | (refine onPick_split (fun h => ?_) (fun h => ?_) <;> (try simp only [h])))
    all_goals (refine take_nil 1 ?_; simp)
  | true =>
    rw [hv] at hV
    cases hn : within n 1 9 with
    | false =>
      rw [hn] at hN
      refine Fn_of' (fn := f23) (by exact func23) c23 r23 (n := 17) (by rfl) (rv := [.tmp 4, .tmp 5]) (by rfl) (by simp) ?_
      unfold m23
      repeat' (first
          | (simp only [Off.s_noOwn, Off.s_isV, ↓rd_off, onC_true, ↓wA, ↓wC, wB, frzBE, frzBS, Nat.reduceEqDiff, Nat.reduceAdd, Nat.reduceSub, reduceIte, reduceCtorEq, Nat.reduceBEq, Nat.reduceLT, decide_true])
          | (refine call_det (hN) rfl rfl ?_)
          | (refine callP_det (hN) rfl rfl ?_)
          | (refine call_det hV (by simp [argsD, argD, Off.s_unown]) rfl ?_)
          | (refine execG_split (fun h => ?_) (fun h => ?_) <;> simp only [h])
          | (refine execC_split (fun h => ?_) (fun h => ?_) <;> (try simp only [h]))
          | (refine onPick_split (fun h => ?_) (fun h => ?_) <;> (try simp only [h])))
      all_goals (refine take_nil 1 ?_; simp)
    | true =>
      rw [hn] at hN
      refine Fn_ofg (ps := [[1, 1, 0]]) (fn := f23) (by exact func23) c23 r23 (n := 17) (by rfl) (rv := [.tmp 4, .tmp 5]) (by rfl) (by simp) ?_
      unfold m23
      simp only [ghAll, ghAt]
      repeat' (first
          | (simp only [Off.s_noOwn, Off.s_isV, ↓rd_off, onC_true, ↓wA, ↓wC, wB, frzBE, frzBS, Nat.reduceEqDiff, Nat.reduceAdd, Nat.reduceSub, reduceIte, reduceCtorEq, Nat.reduceBEq, Nat.reduceLT, decide_true])
          | (refine call_det (hN) rfl rfl ?_)
          | (refine callP_det (hN) rfl rfl ?_)
          | (refine call_det hV (by simp [argsD, argD, Off.s_unown]) rfl ?_)
          | (refine execG_split (fun h => ?_) (fun h => ?_) <;> simp only [h])
          | (refine execC_split (fun h => ?_) (fun h => ?_) <;> (try simp only [h]))
          | (refine onPick_split (fun h => ?_) (fun h => ?_) <;> (try simp only [h])))
      refine exec_gh1 (frzB 1 rfl) ?_
      repeat' (first
          | (simp only [Off.s_noOwn, Off.s_isV, ↓rd_off, onC_true, Off.s_unown, D.unown, ↓wA, ↓wC, wB, frzBE, frzBS, Nat.reduceEqDiff, Nat.reduceAdd, Nat.reduceSub, reduceIte, reduceCtorEq, Nat.reduceBEq, Nat.reduceLT, decide_true])
          | (refine call_det h (by simp [argsD, argD, Off.s_unown]) rfl ?_)
          | (refine execG_split (fun h => ?_) (fun h => ?_) <;> simp only [h])
          | (refine execC_split (fun h => ?_) (fun h => ?_) <;> (try simp only [h]))
          | (refine onPick_split (fun h => ?_) (fun h => ?_) <;> (try simp only [h])))
      all_goals simp
end Go.Pe.Tryd

set_option maxRecDepth 100000
set_option maxHeartbeats 4000000
set_option linter.all false
namespace Go.Pe.Tryd
open Go.Proofs.Tryd
theorem Off.o_noOwn (o : Off) : o.o.noOwn = false := by simp [Off.o, offP, D.noOwn]
theorem Off.o_isStB (o : Off) : o.o.isStB = true := rfl
end Go.Pe.Tryd
