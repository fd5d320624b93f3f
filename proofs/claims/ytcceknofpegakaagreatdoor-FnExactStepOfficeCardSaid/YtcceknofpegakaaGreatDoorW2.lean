/- Marks on offices, walked; The cases of an office of which something is so; those that are due, blocked, held; walked; The cases of an office with a hold: the reference, walked; the law of HeldCases; Roots of ledgers: hashes, rounds (the reference's), walked; Roots of ledgers: the loops, walked (the program's round is taken as told: roundOK); The root of an office's ledger, walked (the program's round as told: roundOK); The library's iterator over the pieces of a slice of numbers, two at a time: its contract; The program's round: the body of its loop, walked; what it is behind the loop; The program's round, walked to its end: what is asked of it (roundOK) is so; slices.Delete at cases and at numbers: walked over raw memory; its contract; slices.Insert at cases: walked over raw memory; its contract; slices.Insert at cases where there is room; its contract; Valid lists of appeals, walked; Valid lists of appeals as the reference has them, walked; The law of AreAppeals, joined; Greatest common divisors and shares in lowest terms, walked; The place of an appeal; how many days it has left, walked; Marks on lists of appeals, walked; Marks on appeals, read again; copies of one's own, walked; Sorting of a few numbers, walked; Steps of an office, as plain lists: the program's road and the reference's agree; Steps of an office: copies, walked; Steps of an office: a hold is released; walked; Steps of an office: a case is dealt with; walked -/
import Derived.Test.YtcceknofpegakaaGreatDoorW1
import Derived.RangeFuncNested
import Derived.RangeFuncBound
import Derived.RangeFuncCalls
import Derived.RangeFuncBox
import Derived.RangeFuncLeaves
import Derived.Shelf.Abstract
import Derived.Shelf.RegionOpen
import Derived.RegionTactic
import Derived.RegionIn
import Derived.WalkKit
import Derived.OwnWalkIn
import Derived.TacticsInMore
import Derived.LoopNIn
import Derived.LoopIn
import Derived.Test.YtcceknofpegakaaGreatDoorProg
import Derived.Test.YtcceknofpegakaaGreatDoorPeD
import Derived.Test.YtcceknofpegakaaGreatDoorMc1
import Derived.Test.YtcceknofpegakaaGreatDoorMc2
import Derived.Test.YtcceknofpegakaaGreatDoorMc3
import Derived.Test.YtcceknofpegakaaGreatDoorMc4
import Derived.Maps.AppendAt
import Derived.Shelf.RegionOpenPlain
import Derived.Deep.RegionLaw
import Derived.Lib.Walk
import Derived.Lib.SliceRun
import Derived.Lib.AppendZerosOnto
import Derived.Lib.Overlaps
import Derived.Laws.IdiomCopy
import Derived.Laws.NewBlocks
import Derived.OwnWalk
set_option maxRecDepth 100000
set_option maxHeartbeats 4000000
set_option linter.all false
namespace Go.Pe.Tryz
open Nat (reduceEqDiff reduceAdd reduceSub reduceLT)
open Go.Proofs.Tryz
def mC (k : Int) (x : Cs) : Cs := ⟨k, k + 1, k + 2, ups x.h.length (k + 3)⟩
def sC (x : Cs) : Int := 3 + x.h.length
def markC : Int → List Cs → List Cs
  | _, [] => []
  | k, x :: xs => mC k x :: markC (k + sC x) xs
def sumC : List Cs → Int
  | [] => 0
  | x :: xs => sC x + sumC xs
theorem markC_len : ∀ (k : Int) (xs : List Cs), (markC k xs).length = xs.length
  | _, [] => rfl
  | k, x :: xs => by simp [markC, markC_len]
theorem markC_snoc : ∀ (k : Int) (xs : List Cs) (x : Cs), markC k (xs ++ [x]) = markC k xs ++ [mC (k + sumC xs) x]
  | k, [], x => by simp [markC, sumC]
  | k, y :: ys, x => by
    simp only [List.cons_append, markC, markC_snoc, sumC]
    rw [Int.add_assoc]
theorem sumC_snoc : ∀ (xs : List Cs) (x : Cs), sumC (xs ++ [x]) = sumC xs + sC x
  | [], x => by simp [sumC]
  | y :: ys, x => by simp only [List.cons_append, sumC, sumC_snoc]; omega
theorem sumC_bd : ∀ (xs : List Cs), (∀ x ∈ xs, x.ok0) → 0 ≤ sumC xs ∧ sumC xs ≤ 2000000 * xs.length
  | [], _ => by simp [sumC]
  | x :: xs, h => by
    have h1 := sumC_bd xs fun y hy => h y (List.mem_cons_of_mem _ hy)
    have h2 := h x (List.mem_cons_self ..)
    unfold Cs.ok0 at h2
    simp only [sumC, sC, List.length_cons]
    omega
theorem markC_get : ∀ (xs : List Cs) (k : Int) (i : Nat) (x : Cs), xs[i]? = some x → (markC k xs)[i]? = some (mC (k + sumC (xs.take i)) x)
  | [], _, i, x, h => by simp at h
  | y :: ys, k, 0, x, h => by
    simp only [List.getElem?_cons_zero, Option.some.injEq] at h
    subst h
    simp [markC, sumC]
  | y :: ys, k, i + 1, x, h => by
    simp only [List.getElem?_cons_succ] at h
    simp only [markC, List.getElem?_cons_succ, List.take_succ_cons, sumC]
    rw [markC_get ys _ i x h, Int.add_assoc]
theorem dset_q0 {x : Cs} {dh : D} {k : Int} : dset [0] (x.p dh) (.int .i64 k) = Cs.p { x with i := k } dh := rfl
theorem dset_q1 {x : Cs} {dh : D} {k : Int} : dset [1] (x.p dh) (.int .i64 k) = Cs.p { x with a := k } dh := rfl
theorem dset_q2 {x : Cs} {dh : D} {k : Int} : dset [2] (x.p dh) (.int .i64 k) = Cs.p { x with d := k } dh := rfl
theorem dset_q3 {x : Cs} {dh u : D} : dset [3] (x.p dh) u = x.p u := rfl
theorem doff_q0 {x : Cs} {dh : D} : doff [0] (x.p dh) = 0 := rfl
theorem doff_q1 {x : Cs} {dh : D} : doff [1] (x.p dh) = 1 := rfl
theorem doff_q2 {x : Cs} {dh : D} : doff [2] (x.p dh) = 2 := rfl
theorem doff_q3 {x : Cs} {dh : D} : doff [3] (x.p dh) = 3 := rfl
theorem dget_q0 {x : Cs} {dh : D} : dget [0] (x.p dh) = some (.int .i64 x.i) := rfl
theorem dget_q1 {x : Cs} {dh : D} : dget [1] (x.p dh) = some (.int .i64 x.a) := rfl
theorem dget_q2 {x : Cs} {dh : D} : dget [2] (x.p dh) = some (.int .i64 x.d) := rfl
theorem dget_q3 {x : Cs} {dh : D} : dget [3] (x.p dh) = some dh := rfl
theorem setN_setN : ∀ (xs : D) (i : Nat) (y z : D), (xs.setN i y).setN i z = xs.setN i z := by
  intro xs
  induction xs with
  | cons a xs ih1 ih2 => intro i y z; cases i with
    | zero => rfl
    | succ i => simp only [D.setN]; rw [ih2]
  | _ => intro i y z; cases i <;> rfl
theorem cdrop_get {xs : List Cs} {i : Nat} {x : Cs} (hr : xs[i]? = some x) : xs.drop i = x :: xs.drop (i + 1) := by
  have hi := lt_of_get hr
  rw [List.drop_eq_getElem_cons hi]
  rw [List.getElem?_eq_getElem hi] at hr
  injection hr with hr
  rw [hr]
theorem markCaseS_fn (xs : List Cs) (k : Int) (h0 : 0 ≤ k) (h1 : k ≤ 1000) (hlen : xs.length ≤ 1048576) (hx : ∀ x ∈ xs, x.ok0) : FnM prog 128 false (.sl true 4 (dl Cs.o xs)) [.int .i64 k] (fun x' rs => x' = .sl true 4 (dl Cs.o (markC k xs)) ∧ rs = [.int .i64 (k + sumC xs)]) := by
  refine FnM_ofg (ps := [[1, 0, 1, 0, 0, 1, 0, 0, 1, 1, 1, 1, 1, 1], [1, 0, 1, 0, 0, 1, 1]]) (fn := f128) (by exact func128) c128 r128 (n := 41) (by rfl) (rv := [.tmp 4]) (by rfl) (by decide) (by simp) ?_
  unfold m128
  try simp only [wQ]
  simp only [ghAll, ghAt]
  simp only [dl_len, ↓wA, ↓wC, wB, frzBE, frzBS, reduceEqDiff, reduceAdd, reduceSub, reduceIte, reduceCtorEq, Nat.reduceBEq, reduceLT]
  refine exec_range xs.length (fun i : Nat => ⟨[(0, .own 0), (1, .d (.int .i64 (k + sumC (xs.take i)))), (5, .d (.int .i64 i))], [.val (.sl true 4 (dl Cs.o (markC k (xs.take i) ++ xs.drop i)))]⟩) (fun _ => True) (weak_of [] rfl ⟨⟨rfl, rfl⟩, ⟨congrArg (fun n => SV.d (.int .i64 n)) (by simp [sumC]), rfl⟩, ⟨rfl, rfl⟩, trivial⟩) trivial ?_ ?_
  · intro i hlt _ hd hi0
    obtain ⟨x, hr⟩ := get_lt hlt
    have hL : (markC k (xs.take i) ++ xs.drop i)[i]? = some x := by
      rw [List.getElem?_append_right (by rw [markC_len]; simp; omega), markC_len, List.length_take, Nat.min_eq_left (by omega), Nat.sub_self, List.getElem?_drop]; exact hr
    have hll : (markC k (xs.take i) ++ xs.drop i).length = xs.length := by rw [List.length_append, markC_len, List.length_take, List.length_drop]; omega
    have hb := sumC_bd (xs.take i) (fun y hy => hx y (List.mem_of_mem_take hy))
    have hbl : (xs.take i).length ≤ 1048576 := by simp; omega
    generalize hK : k + sumC (xs.take i) = K
    have hK0 : 0 ≤ K := by omega
    have hK1 : K ≤ 10000000000000 := by omega
    have hgs : ∀ {f : Cs → D} (y : D), ((dl f (markC k (xs.take i) ++ xs.drop i)).setN i y).nth i = some y := fun y => by rw [setN_nth, if_pos rfl, dl_nth, hL]; rfl
    repeat' (first | (simp only [dl_len, hll, hd, hi0, dl_nth, Int.toNat_natCast, hL, Option.map_some, onC_true, hgs, setN_len, dset_q0, dset_q1, dset_q2, dset_q3, doff_q0, doff_q1, doff_q2, doff_q3, dget_q0, dget_q1, dget_q2, dget_q3, setN_setN, Cs.o, ↓wA, ↓wC, wB, frzBE, frzBS, reduceEqDiff, reduceAdd, reduceSub, reduceIte, reduceCtorEq, Nat.reduceBEq, reduceLT]) | (refine onI_bare (by simp only [InR]; omega) ?_) | ((first | apply execG_split | apply execC_split | apply onPick_split) <;> intro h <;> try simp only [h]))
    have hxo := hx x (List.mem_of_getElem? hr)
    refine exec_gh _ (unlink 0 (some i) [3] (es := 1) (xs := dl iD x.h) rfl (by simp only [obPart, hgs, Option.bind_some, dget_q3])) fun v => ?_
    have m1 := markI_fn x.h (K + 1 + 1 + 1) (by omega) (by omega) hxo
    repeat' (first | (simp only [dl_len, hll, hd, hi0, dl_nth, Int.toNat_natCast, hL, Option.map_some, onC_true, hgs, setN_len, dset_q0, dset_q1, dset_q2, dset_q3, doff_q0, doff_q1, doff_q2, doff_q3, dget_q0, dget_q1, dget_q2, dget_q3, setN_setN, obSet, Option.getD_some, ↓wA, ↓wC, wB, frzBE, frzBS, reduceEqDiff, reduceAdd, reduceSub, reduceIte, reduceCtorEq, Nat.reduceBEq, reduceLT]) | (refine onI_bare (by simp only [InR]; omega) ?_) | ((first | apply execG_split | apply execC_split | apply onPick_split) <;> intro h <;> try simp only [h]))
    refine callM_det m1 rfl rfl rfl ?_
    repeat' (first | (simp only [dl_len, hll, hd, hi0, dl_nth, Int.toNat_natCast, hL, Option.map_some, onC_true, hgs, setN_len, dset_q0, dset_q1, dset_q2, dset_q3, doff_q0, doff_q1, doff_q2, doff_q3, dget_q0, dget_q1, dget_q2, dget_q3, setN_setN, obSet, Option.getD_some, ↓wA, ↓wC, wB, frzBE, frzBS, reduceEqDiff, reduceAdd, reduceSub, reduceIte, reduceCtorEq, Nat.reduceBEq, reduceLT]) | (refine onI_bare (by simp only [InR]; omega) ?_) | ((first | apply execG_split | apply execC_split | apply onPick_split) <;> intro h <;> try simp only [h]))
    refine exec_gh1 (relink 0 2 1 (some i) [3] rfl (by simp only [obPart, hgs, Option.bind_some, dget_q3]) rfl rfl (by decide) rfl) ?_
    repeat' (first | (simp only [dl_len, hll, hd, hi0, dl_nth, Int.toNat_natCast, hL, Option.map_some, onC_true, hgs, setN_len, dset_q0, dset_q1, dset_q2, dset_q3, doff_q0, doff_q1, doff_q2, doff_q3, dget_q0, dget_q1, dget_q2, dget_q3, setN_setN, obSet, Option.getD_some, ↓wA, ↓wC, wB, frzBE, frzBS, reduceEqDiff, reduceAdd, reduceSub, reduceIte, reduceCtorEq, Nat.reduceBEq, reduceLT]) | (refine onI_bare (by simp only [InR]; omega) ?_) | ((first | apply execG_split | apply execC_split | apply onPick_split) <;> intro h <;> try simp only [h]))
    have e2 : K + 1 + 1 = K + 2 := by omega
    have e3 : K + 1 + 1 + 1 = K + 3 := by omega
    have ex : Cs.p { i := K, a := K + 1, d := K + 1 + 1, h := x.h } (.sl true 1 (dl iD (ups x.h.length (K + 1 + 1 + 1)))) = Cs.o (mC K x) := by
      rw [e3, e2]; rfl
    have el : (markC k (xs.take i) ++ xs.drop i).set i (mC K x) = markC k (xs.take (i + 1)) ++ xs.drop (i + 1) := by
      rw [List.set_append_right _ _ (by rw [markC_len]; simp; omega), markC_len, List.length_take, Nat.min_eq_left (by omega), Nat.sub_self, cdrop_get hr, List.set_cons_zero, take_get hr, markC_snoc, hK, List.append_assoc]
      rfl
    have es : K + 1 + 1 + 1 + x.h.length = k + sumC (xs.take (i + 1)) := by
      rw [take_get hr, sumC_snoc, ← Int.add_assoc, hK, sC]; omega
    rw [ex, dl_setN, el, es]
    exact ⟨i + 1, (weak_of _ rfl ⟨⟨rfl, rfl⟩, ⟨rfl, rfl⟩, ⟨rfl, rfl⟩, trivial⟩), by omega, by omega⟩
  · intro _ hd
    have e1 : xs.take xs.length = xs := List.take_length
    have e2 : (markC k (xs.take xs.length) ++ xs.drop xs.length) = markC k xs := by rw [e1, List.drop_length, List.append_nil]
    rw [e2, e1]
    simp only [dl_len, markC_len, hd, ↓wA, ↓wC, wB, frzBE, frzBS, reduceEqDiff, reduceAdd, reduceSub, reduceIte, reduceCtorEq, Nat.reduceBEq, reduceLT]
theorem mC_i {K : Int} {x : Cs} : (mC K x).i = K := rfl
theorem mC_a {K : Int} {x : Cs} : (mC K x).a = K + 1 := rfl
theorem mC_d {K : Int} {x : Cs} : (mC K x).d = K + 1 + 1 := by simp only [mC]; omega
theorem mC_h {K : Int} {x : Cs} : (mC K x).h = ups x.h.length (K + 1 + 1 + 1) := by
  have : K + 1 + 1 + 1 = K + 3 := by omega
  rw [this]; rfl
theorem heldCaseS_fn (xs : List Cs) (k : Int) (h0 : 0 ≤ k) (h1 : k ≤ 1000) (hlen : xs.length ≤ 1048576) (hx : ∀ x ∈ xs, x.ok0) : Fn prog 129 [.sl false 4 (dl Cs.s (markC k xs)), .int .i64 k] (fun rs => rs = [.int .i64 (k + sumC xs)]) := by
  refine Fn_of' (fn := f129) (by exact func129) c129 r129 (n := 49) (by rfl) (rv := [.tmp 4]) (by rfl) (by simp) ?_
  unfold m129
  try simp only [wQ]
  simp only [dl_len, markC_len, ↓wA, ↓wC, wB, frzBE, frzBS, reduceEqDiff, reduceAdd, reduceSub, reduceIte, reduceCtorEq, Nat.reduceBEq, reduceLT]
  refine exec_range xs.length (fun i : Nat => ⟨[(0, .d (.sl false 4 (dl Cs.s (markC k xs)))), (1, .d (.int .i64 (k + sumC (xs.take i)))), (5, .d (.int .i64 i))], []⟩) (fun _ => True) (weak_of _ rfl ⟨⟨rfl, rfl⟩, ⟨congrArg (fun n => SV.d (.int .i64 n)) (by simp [sumC]), rfl⟩, ⟨rfl, rfl⟩, trivial⟩) trivial ?_ ?_
  · intro i hlt _ hd hi0
    obtain ⟨x, hr⟩ := get_lt hlt
    have hL := markC_get xs k i x hr
    have hb := sumC_bd (xs.take i) (fun y hy => hx y (List.mem_of_mem_take hy))
    have hbl : (xs.take i).length ≤ 1048576 := by simp; omega
    have es : k + sumC (xs.take (i + 1)) = k + sumC (xs.take i) + 3 + x.h.length := by
      rw [take_get hr, sumC_snoc, sC]; omega
    generalize hK : k + sumC (xs.take i) = K at hL es
    have hK0 : 0 ≤ K := by omega
    have hK1 : K ≤ 10000000000000 := by omega
    have hxo := hx x (List.mem_of_getElem? hr)
    have m1 := heldI_fn x.h.length (K + 1 + 1 + 1) (by omega) (by omega) hxo
    have n1 : decide (K + 1 + 1 + 1 + (x.h.length : Int) < 0) = false := decide_eq_false (by omega)
    repeat' (first | (simp only [dl_len, markC_len, hd, hi0, dl_nth, Int.toNat_natCast, hL, Option.map_some, onC_true, ↓fa_cs0, ↓fa_cs1, ↓fa_cs2, ↓fa_cs3, mC_i, mC_a, mC_d, mC_h, ints_noOwn, n1, ↓wA, ↓wC, wB, frzBE, frzBS, reduceEqDiff, reduceAdd, reduceSub, reduceIte, reduceCtorEq, Nat.reduceBEq, reduceLT]) | (refine call_det (m1) rfl rfl ?_) | (refine callP_det (m1) rfl rfl ?_) | (refine onI_bare (by simp only [InR]; omega) ?_) | ((first | apply execG_split | apply execC_split | apply onPick_split) <;> intro h <;> try simp only [h]))
    refine ⟨i + 1, weak_of _ rfl ⟨⟨rfl, rfl⟩, ⟨congrArg (fun n => SV.d (.int .i64 n)) ?_, rfl⟩, ⟨rfl, rfl⟩, trivial⟩, by omega, by omega⟩
    rw [es]; omega
  · intro _ hd
    have e1 : xs.take xs.length = xs := List.take_length
    rw [e1]
    simp only [dl_len, markC_len, hd, ↓wA, ↓wC, wB, frzBE, frzBS, reduceEqDiff, reduceAdd, reduceSub, reduceIte, reduceCtorEq, Nat.reduceBEq, reduceLT]
def mO (k : Int) (o : Off) : Off := ⟨o.day, markC k o.cs, o.kept, o.moved, mups o.led.length (k + sumC o.cs)⟩
theorem markOffice_fn (o : Off) (k : Int) (h0 : 0 ≤ k) (h1 : k ≤ 1000) (ho : o.ok0) : FnM prog 55 false o.o [.int .i64 k] (fun x' rs => x' = (mO k o).o ∧ rs = [.int .i64 (k + sumC o.cs + o.led.length)]) := by
  have hb := sumC_bd o.cs ho.1.2
  have hbl := ho.1.1
  have m1 := markCaseS_fn o.cs k h0 h1 ho.1.1 ho.1.2
  have m2 := markS_fn o.led (k + sumC o.cs) (by omega) (by omega) ho.2.1
  refine FnM_ofg (ps := [[1, 1, 1, 1], [1, 1, 1, 1], [1, 1, 1, 1], [0], [0], [0]]) (fn := f55) (by exact func55) c55 r55 (n := 14) (by rfl) (rv := [.tmp 4]) (by rfl) (by decide) (by simp) ?_
  unfold m55
  try simp only [wQ]
  simp only [ghAll, ghAt]
  simp only [Off.o, offP]
  refine exec_gh _ (unlink 0 none [1] (es := 4) (xs := dl Cs.o o.cs) rfl rfl) fun v1 => ?_
  simp only [obSet, ↓wA, ↓wC, wB, frzBE, frzBS, reduceEqDiff, reduceAdd, reduceSub, reduceIte, reduceCtorEq, Nat.reduceBEq, reduceLT]
  refine exec_gh _ (unlink 0 none [4] (es := 1) (xs := dl D.str o.led) rfl rfl) fun v2 => ?_
  simp only [obSet, ↓wA, ↓wC, wB, frzBE, frzBS, reduceEqDiff, reduceAdd, reduceSub, reduceIte, reduceCtorEq, Nat.reduceBEq, reduceLT]
  refine exec_gh1 (lend 0 0 rfl rfl rfl) ?_
  repeat' (first | (simp only [onC_true, ↓wA, ↓wC, wB, frzBE, frzBS, reduceEqDiff, reduceAdd, reduceSub, reduceIte, reduceCtorEq, Nat.reduceBEq, reduceLT]) | ((first | apply execG_split | apply execC_split | apply onPick_split) <;> intro h <;> try simp only [h]))
  refine callM_det m1 rfl rfl rfl ?_
  repeat' (first | (simp only [onC_true, ↓wA, ↓wC, wB, frzBE, frzBS, reduceEqDiff, reduceAdd, reduceSub, reduceIte, reduceCtorEq, Nat.reduceBEq, reduceLT]) | ((first | apply execG_split | apply execC_split | apply onPick_split) <;> intro h <;> try simp only [h]))
  refine callM_det m2 rfl rfl rfl ?_
  repeat' (first | (simp only [onC_true, ↓wA, ↓wC, wB, frzBE, frzBS, reduceEqDiff, reduceAdd, reduceSub, reduceIte, reduceCtorEq, Nat.reduceBEq, reduceLT]) | ((first | apply execG_split | apply execC_split | apply onPick_split) <;> intro h <;> try simp only [h]))
  refine exec_gh1 (unlend 0 0 rfl rfl rfl) ?_
  simp only [obSet, ↓wA, ↓wC, wB, frzBE, frzBS, reduceEqDiff, reduceAdd, reduceSub, reduceIte, reduceCtorEq, Nat.reduceBEq, reduceLT]
  refine exec_gh1 (relink 0 2 1 none [1] rfl rfl rfl rfl (by decide) rfl) ?_
  simp only [obSet, ↓wA, ↓wC, wB, frzBE, frzBS, reduceEqDiff, reduceAdd, reduceSub, reduceIte, reduceCtorEq, Nat.reduceBEq, reduceLT]
  refine exec_gh1 (relink 0 4 3 none [4] rfl rfl rfl rfl (by decide) rfl) ?_
  simp only [obSet, ↓wA, ↓wC, wB, frzBE, frzBS, reduceEqDiff, reduceAdd, reduceSub, reduceIte, reduceCtorEq, Nat.reduceBEq, reduceLT]
  rfl
end Go.Pe.Tryz
set_option maxRecDepth 100000
set_option maxHeartbeats 4000000
set_option linter.all false
namespace Go.Pe.Tryz
open Nat (reduceEqDiff reduceAdd reduceSub reduceLT)
open Go.Proofs.Tryz
theorem app_int (V : List Int) (n : Int) : (dl iD V).app (D.cons (.int .i64 n) .nil) = dl iD (V ++ [n]) := app_one (f := iD) V n
end Go.Pe.Tryz
set_option maxRecDepth 100000
set_option maxHeartbeats 4000000
set_option linter.all false
namespace Go.Pe.Tryz
open Nat (reduceEqDiff reduceAdd reduceSub reduceLT)
open Go.Proofs.Tryz
end Go.Pe.Tryz
set_option maxRecDepth 100000
set_option maxHeartbeats 4000000
set_option linter.all false
namespace Go.Pe.Tryz
open Nat (reduceEqDiff reduceAdd reduceSub reduceLT)
open Go.Proofs.Tryz
end Go.Pe.Tryz
set_option maxRecDepth 100000
set_option maxHeartbeats 4000000
set_option linter.all false
namespace Go.Pe.Tryz
open Nat (reduceEqDiff reduceAdd reduceSub reduceLT)
open Go.Proofs.Tryz
end Go.Pe.Tryz
set_option maxRecDepth 100000
set_option maxHeartbeats 4000000
set_option linter.all false
namespace Go.Pe.Tryz
open Nat (reduceEqDiff reduceAdd reduceSub reduceLT)
open Go.Proofs.Tryz
end Go.Pe.Tryz
set_option linter.all false
namespace Go.Proofs.ChkTryz
open Go.Proofs Go.RowKit Go.Shelf
attribute [local go_sem] Oper.semAt_some
def Keep (n₀ Bs Bn : Nat) (W W' : World) : Prop := Below n₀ W W' ∧ W'.heap[Bs]? = W.heap[Bs]? ∧ W'.heap[Bn]? = W.heap[Bn]?
theorem Keep.refl (n₀ Bs Bn : Nat) (W : World) : Keep n₀ Bs Bn W W := ⟨Below.refl _ _, rfl, rfl⟩
theorem Keep.trans {n₀ Bs Bn : Nat} {A B C : World} (h : Keep n₀ Bs Bn A B) (k : Keep n₀ Bs Bn B C) : Keep n₀ Bs Bn A C := ⟨h.1.trans k.1, k.2.1.trans h.2.1, k.2.2.trans h.2.2⟩
theorem Keep.drew {n₀ Bs Bn : Nat} {A B : World} (h : Keep n₀ Bs Bn A B) : Keep n₀ Bs Bn A B.drew := ⟨h.1.drew, h.2.1, h.2.2⟩
end Go.Proofs.ChkTryz
set_option maxRecDepth 100000
set_option maxHeartbeats 4000000
set_option linter.all false
namespace Go.Pe.Tryz
open Nat (reduceEqDiff reduceAdd reduceSub reduceLT)
open Go Go.Proofs.Tryz
end Go.Pe.Tryz
set_option maxRecDepth 100000
set_option maxHeartbeats 4000000
set_option linter.all false
namespace Go.Pe.Tryz
open Nat (reduceEqDiff reduceAdd reduceSub reduceLT)
open Go Go.RowKit Go.Shelf Go.Proofs.ChkTryz
attribute [local go_sem] Oper.semAt_some
theorem ints_rep {w : World} {M : Nat → Prop} : ∀ v : List Int, (dl iD v).rep w M (v.map (Value.int .i64)) []
  | [] => ⟨rfl, rfl⟩
  | n :: v => ⟨[.int .i64 n], _, [], [], rfl, rfl, ⟨rfl, rfl⟩, ints_rep v⟩
theorem ints_rep_inv {w : World} {M : Nat → Prop} : ∀ (v : List Int) (cs : List Value) (fp : List Nat), (dl iD v).rep w M cs fp → cs = v.map (Value.int .i64) ∧ fp = []
  | [], cs, fp, h => h
  | n :: v, cs, fp, h => by
    obtain ⟨c1, c2, f1, f2, rfl, rfl, ⟨rfl, rfl⟩, h2⟩ := h
    obtain ⟨rfl, rfl⟩ := ints_rep_inv v c2 f2 h2
    exact ⟨rfl, rfl⟩
theorem ints_isL : ∀ v : List Int, (dl iD v).isL 1
  | [] => trivial
  | n :: v => ⟨rfl, ints_isL v⟩
def SlI (W : World) (u : Value) (out : List Int) (fp : List Nat) : Prop :=
  (∃ a, u = .slice a 0 0 ∧ out = [] ∧ fp = []) ∨ ∃ g c, u = .slice (some ⟨g, 0, none⟩) out.length c ∧ out.length ≤ c ∧ RowAt W g c (out.map (Value.int .i64)) ∧ fp = [g]
theorem SlI.rep {W : World} {M : Nat → Prop} {u : Value} {out : List Int} {fp : List Nat} (h : SlI W u out fp) : (D.sl true 1 (dl iD out)).rep W M [u] fp := by
  rcases h with ⟨a, rfl, rfl, rfl⟩ | ⟨g, c, rfl, hc, hr, rfl⟩
  · exact ⟨trivial, a, 0, [], [], rfl, Nat.le_refl _, ⟨rfl, rfl⟩, by simp⟩
  · refine ⟨ints_isL out, _, c, _, [], by rw [dl_len], by rw [dl_len]; exact hc, ints_rep out, ?_⟩
    simp only [if_true]
    exact .inr ⟨g, rfl, ⟨by rw [Nat.mul_one]; exact hr, fun h => absurd rfl h⟩, rfl⟩
theorem SlI.of {W : World} {M : Nat → Prop} {cs : List Value} {out : List Int} {fp : List Nat} (h : (D.sl true 1 (dl iD out)).rep W M cs fp) : ∃ u, cs = [u] ∧ SlI W u out fp := by
  obtain ⟨_, a, c, ds, fps, rfl, hc, h3, h4⟩ := h
  obtain ⟨rfl, rfl⟩ := ints_rep_inv _ _ _ h3
  rw [dl_len] at hc ⊢
  refine ⟨_, rfl, ?_⟩
  simp only [if_true] at h4
  rcases h4 with ⟨rfl, _, rfl⟩ | ⟨g, rfl, hr, rfl⟩
  · have e : out = [] := List.length_eq_zero_iff.1 (by omega)
    subst e
    exact .inl ⟨a, rfl, rfl, rfl⟩
  · rw [Nat.mul_one] at hr
    have hr := hr.1
    exact .inr ⟨g, c, rfl, hc, hr, rfl⟩
theorem rowCells {W : World} {g n : Nat} {ds : List Value} (h : RowAt W g n ds) : ∃ o : Obj, W.heap[g]? = some o ∧ o.isCells = true := by
  obtain ⟨cur, E, ⟨fz, h1, _⟩, _⟩ := h
  exact ⟨_, h1, rfl⟩
theorem SlI.row {W : World} {u : Value} {out : List Int} {fp : List Nat} (h : SlI W u out fp) : ∀ b ∈ fp, ∃ o : Obj, W.heap[b]? = some o ∧ o.isCells = true := by
  rcases h with ⟨a, rfl, rfl, rfl⟩ | ⟨g, c, rfl, hc, hr, rfl⟩
  · intro b hb; cases hb
  · intro b hb; rw [List.mem_singleton.1 hb]; exact rowCells hr
theorem SlI.keep {W W' : World} {u : Value} {out : List Int} {fp : List Nat} (h : SlI W u out fp) (hk : ∀ b ∈ fp, W'.heap[b]? = W.heap[b]?) : SlI W' u out fp := by
  rcases h with ⟨a, rfl, rfl, rfl⟩ | ⟨g, c, rfl, hc, hr, rfl⟩
  · exact .inl ⟨a, rfl, rfl, rfl⟩
  · exact .inr ⟨g, c, rfl, hc, hr.frame (hk g (by simp)), rfl⟩
def BoxI (n0 B : Nat) (W : World) (out : List Int) : Prop := ∃ u fp, RowAt W B 1 [u] ∧ SlI W u out fp ∧ B ∉ fp ∧ ∀ b ∈ fp, n0 ≤ b
theorem BoxI.kept {n0 B : Nat} {W W' : World} {out : List Int} {row : Option Nat} (h : BoxI n0 B W out) (hg : W.grownBy W' row) (hr : ∀ r, row = some r → ∃ o : Obj, W.heap[r]? = some o ∧ o.isCells = false) : BoxI n0 B W' out := by
  obtain ⟨u, fp, h1, h2, h3, h4⟩ := h
  have key : ∀ b : Nat, (∃ o : Obj, W.heap[b]? = some o ∧ o.isCells = true) → W'.heap[b]? = W.heap[b]? := by
    rintro b ⟨o, hb, ho⟩
    refine hg.block b (Array.getElem?_eq_some_iff.1 hb).1 fun e => ?_
    obtain ⟨o', hb', ho'⟩ := hr b e.symm
    rw [hb] at hb'
    injection hb' with hb'
    rw [← hb', ho] at ho'
    cases ho'
  exact ⟨u, fp, h1.frame (key B (rowCells h1)), h2.keep fun b hb => key b (h2.row b hb), h3, h4⟩
theorem BoxI.own (n0 B : Nat) {β : Type} (f : β → List Int) : Own (fun s W => BoxI n0 B W (f s)) := fun s X Y row h hg hr => BoxI.kept h hg hr
end Go.Pe.Tryz
set_option maxRecDepth 100000
set_option maxHeartbeats 4000000
set_option linter.all false
namespace Go.Pe.Tryz
open Nat (reduceEqDiff reduceAdd reduceSub reduceLT)
open Go Go.RowKit Go.Shelf Go.Lib Go.Proofs.Tryz
theorem step_app_run {P : Program} {ops : Array Oper} {o : Oper} {a : Act} {w : World} {K : Act → World → Prop} {Q : Exit → Act → World → Prop} {E : Prop}
    (hg : o.guard = none) (d x : Operand) (dT sT : TypeId) (hop : o.op = Op.call { callee := Callee.builtin Builtin.append, args := #[d, x], argTypes := #[dT, sT] })
    (v u : Value) (hd : a.eval d = v) (hx : a.eval x = u) {v' : Value} {w' : World} (hr : (Builtin.append_ #[dT, sT] o.type #[v, u]).run P w = .ok v' w') (hK : K (a.put o.dst v') w') :
    if Region.wanted o (yielded ops a.tmps) = true then Oper.wp P o a w K Q else E := by
  have hw : Region.wanted o (yielded ops a.tmps) = true := by simp [Region.wanted, hg]
  rw [if_pos hw]
  unfold Oper.wp
  simp [execOp, hop, resolve, invoke, builtin, hd, hx, hr, Result.andThen]
  exact hK
theorem deleteM {P : PG} {f : FuncId} (es : Nat)
    (raw : ∀ (g n cp i j : Nat) (cs : List Value) (w : World), RowAt w g (cp * es) cs → cs.length = n * es → n ≤ cp → i < j → j ≤ n → (∀ v ∈ cs, v.oneCell' = true) →
      Calls P.P f #[.slice (some ⟨g, 0, none⟩) n cp, .int .i64 i, .int .i64 j] w fun e w' =>
        e = .returned (.slice (some ⟨g, 0, none⟩) (n - (j - i)) cp) ∧ RowAt w' g (cp * es) (cs.take (i * es) ++ cs.drop (j * es)) ∧ Went w w' (fun b => b = g) ∧ (NoMk w g → NoMk w' g))
    (xs : List D) (hs : ∀ x ∈ xs, x.size = es) (i j : Nat) (hij : i < j) (hj : j ≤ xs.length) :
    FnM P f false (.sl true es (ofL xs)) [.int .i64 i, .int .i64 j] (fun x' rs => (∃ u, x' = .lnk 0 u) ∧ rs = [.sl true es (ofL (xs.take i ++ xs.drop j))]) := by
  intro M oc vs w hM hob hnd hlt hG hr
  obtain ⟨_, us1, f1, f2, rfl, e0, ⟨rfl, rfl⟩, _, us2, f3, f4, rfl, e1, ⟨rfl, rfl⟩, rfl, rfl⟩ := hr
  obtain ⟨cs0, hrep, hv⟩ := hob
  obtain ⟨hL, a, c, ds, fps, rfl, hc, h3, h4⟩ := hrep
  rw [len_ofL] at hc hv
  simp only [if_true] at h4
  rcases h4 with ⟨rfl, _, _⟩ | ⟨g, rfl, hrow, hfp⟩
  · omega
  have hone := rep_one _ _ _ h3
  have hdl : ds.length = xs.length * es := by rw [rep_length _ _ _ h3, size_ofL _ hs]
  have hv' : mkV false oc = .slice (some ⟨g, 0, none⟩) xs.length c := by
    show oc.v = _
    rw [hv]; rfl
  rw [hv']
  have hsp : xs = xs.take i ++ ((xs.drop i).take (j - i) ++ xs.drop j) := by
    have : xs.drop j = (xs.drop i).drop (j - i) := by rw [List.drop_drop]; congr 1; omega
    rw [this, List.take_append_drop, List.take_append_drop]
  have h3' := h3
  rw [hsp] at h3'
  obtain ⟨c1, c23, p1, p23, ed, ef, r1, r23⟩ := (rep_append _ _ _ _).1 h3'
  obtain ⟨c2, c3, p2, p3, rfl, rfl, r2, r3⟩ := (rep_append _ _ _ _).1 r23
  have l1 : c1.length = i * es := by
    rw [rep_length _ _ _ r1, size_ofL _ (fun y hy => hs y (List.mem_of_mem_take hy)), List.length_take, Nat.min_eq_left (by omega)]
  have l2 : c2.length = (j - i) * es := by
    rw [rep_length _ _ _ r2, size_ofL _ (fun y hy => hs y (List.mem_of_mem_drop (List.mem_of_mem_take hy))), List.length_take, List.length_drop, Nat.min_eq_left (by omega)]
  have t1 : ds.take (i * es) = c1 := by rw [ed, ← l1, List.take_left]
  have t3 : ds.drop (j * es) = c3 := by
    have : j * es = (c1 ++ c2).length := by rw [List.length_append, l1, l2, ← Nat.add_mul]; congr 1; omega
    rw [ed, ← List.append_assoc, this, List.drop_left]
  refine (raw g xs.length c i j ds w hrow.1 hdl hc hij hj hone).mono ?_
  rintro e w' ⟨rfl, hrow', hw, hnm⟩
  rw [t1, t3] at hrow'
  rw [hfp, ef] at hnd hlt
  obtain ⟨hg, hnd⟩ := List.nodup_cons.1 hnd
  have n1 := List.nodup_append.1 hnd
  have n2 := List.nodup_append.1 n1.2.1
  have sub : ∀ b ∈ g :: (p1 ++ p3), b ∈ oc.fp := fun b hb => by
    rw [hfp, ef]
    rcases List.mem_cons.1 hb with hb | hb
    · simp [hb]
    · rcases List.mem_append.1 hb with hb | hb <;> simp [hb]
  have hin : ∀ b, b ∈ g :: (p1 ++ (p2 ++ p3)) ↔ b ∈ oc.fp := fun b => by rw [hfp, ef]
  have frame : ∀ (q : List D) (cs : List Value) (p : List Nat), (∀ b ∈ p, b ≠ g) → (ofL q).rep w (fun b => M b ∨ b ∈ oc.fp) cs p → (ofL q).rep w' (fun b => M b ∨ b ∈ [] ++ (g :: (p1 ++ p3))) cs p := by
    intro q cs p hp hq
    refine rep_frame hw.size (fun b _ h => h.imp id (fun h => sub b (by simpa using h))) _ _ _ (fun b hb hx => hw.kept b hb fun e => ?_) hq
    subst e
    rcases hx with hx | hx
    · exact hp _ hx rfl
    · exact hx (.inr ((hin _).1 (by simp)))
  have nd : (g :: (p1 ++ p3)).Nodup := by
    refine List.nodup_cons.2 ⟨fun h => hg ?_, List.nodup_append.2 ⟨n1.1, n2.2.1, fun a ha b hb => n1.2.2 a ha b (by simp [hb])⟩⟩
    rcases List.mem_append.1 h with h | h <;> simp [h]
  refine ⟨.lnk 0 oc.v, _, [.slice (some ⟨g, 0, none⟩) (xs.length - (j - i)) c], [], g :: (p1 ++ p3), rfl, ⟨⟨_, rfl⟩, rfl⟩, ⟨[oc.v], ⟨rfl, by rw [hv]; rfl, rfl⟩, rfl⟩, ?_, by simpa using nd, fun b hb => ?_, ?_⟩
  · have hl' : (xs.take i ++ xs.drop j).length = xs.length - (j - i) := by simp; omega
    refine ⟨[.slice (some ⟨g, 0, none⟩) (xs.length - (j - i)) c], [], g :: (p1 ++ p3), [], rfl, by simp, ⟨(isL_ofL _).2 fun y hy => ?_, some ⟨g, 0, none⟩, c, c1 ++ c3, p1 ++ p3, by rw [len_ofL, hl'], by rw [len_ofL, hl']; omega, ?_, ?_⟩, rfl, rfl⟩
    · rcases List.mem_append.1 hy with hy | hy
      · exact hs y (List.mem_of_mem_take hy)
      · exact hs y (List.mem_of_mem_drop hy)
    · exact (rep_append _ _ _ _).2 ⟨c1, c3, p1, p3, rfl, rfl, frame _ _ _ (fun b hb e => hg (by simp [← e, hb])) r1, frame _ _ _ (fun b hb e => hg (by simp [← e, hb])) r3⟩
    · simp only [if_true]
      exact .inr ⟨g, rfl, ⟨hrow', fun he => hnm (hrow.2 he)⟩, rfl⟩
  · have hb' : b ∈ g :: (p1 ++ p3) := by simpa using hb
    exact ⟨.inl (sub b hb'), by have := hlt b ((hin b).2 (sub b hb')); have := hw.size; omega⟩
  · exact ⟨hw.os, hw.tape, hw.output, hw.size, fun b hb hx => hw.kept b hb fun e => hx (sub b (by simp [e]))⟩
theorem deleteC_raw (g n cp i j : Nat) (cs : List Value) (w : World) (hrow : RowAt w g (cp * 4) cs) (hlen : cs.length = n * 4) (hn : n ≤ cp) (hij : i < j) (hj : j ≤ n) (h1 : ∀ v ∈ cs, v.oneCell' = true) :
    Calls Go.Proofs.Tryz.prog 250 #[.slice (some ⟨g, 0, none⟩) n cp, .int .i64 i, .int .i64 j] w fun e w' =>
      e = .returned (.slice (some ⟨g, 0, none⟩) (n - (j - i)) cp) ∧ RowAt w' g (cp * 4) (cs.take (i * 4) ++ cs.drop (j * 4)) ∧ Went w w' (fun b => b = g) ∧ (NoMk w g → NoMk w' g) := by
  obtain ⟨inf, hinf, hsize, hzero⟩ : ∃ inf, Go.Proofs.Tryz.prog.info? 140 = some inf ∧ inf.size = 4 ∧ inf.zero = some (.agg #[.int .i64 0, .int .i64 0, .int .i64 0, .slice none 0 0]) := ⟨_, rfl, rfl, rfl⟩
  have hu : Go.Proofs.Tryz.prog.underlying 33 = some (.slice 140) := rfl
  obtain ⟨cur, E, hcur, hsz, htk⟩ := hrow
  have hfit : cs.length ≤ cur.toList.length := by
    have e : cur.toList.length = cur.size := by simp
    rw [e, hsz, hlen]
    exact Nat.mul_le_mul_right _ hn
  obtain ⟨news, hnews⟩ : ∃ news, news = cs.drop (j * 4) := ⟨_, rfl⟩
  have hnl : news.length = (n - j) * inf.size := by rw [hnews, List.length_drop, hlen, hsize]; omega
  obtain ⟨row1, hrow1⟩ : ∃ row1, row1 = (cur.toList.take (i * inf.size) ++ news ++ cur.toList.drop (i * inf.size + news.length)).toArray := ⟨_, rfl⟩
  have hcurd : RowC w.drew g cur E := hcur
  have hA : ∃ A : Addr, (if cp = j then (some ⟨g, 0, none⟩ : Option Addr) else some ⟨g, j * 4, none⟩) = some A ∧ Hid (∀ t u, news[t]? = some u → w.drew.cell? (A.add t) = some u) := by
    by_cases h : cp = j
    · refine ⟨⟨g, 0, none⟩, by simp [h], fun t u hu => ?_⟩
      have h0 : news = [] := List.eq_nil_of_length_eq_zero (by rw [hnl, show n - j = 0 by omega, Nat.zero_mul])
      rw [h0] at hu
      simp at hu
    · refine ⟨⟨g, j * 4, none⟩, by simp [h], fun t u hu => ?_⟩
      rw [Addr.add_lit, hcurd.cell]
      rw [hnews, List.getElem?_drop, ← htk, List.getElem?_take] at hu
      split at hu
      · simpa using hu
      · cases hu
  obtain ⟨A, hA, hsrc⟩ := hA
  have s2 : Hid (∀ u ∈ news, u.oneCell' = true) := fun u hu => h1 u (by rw [hnews] at hu; exact List.mem_of_mem_drop hu)
  have hap : Hid (∀ ty, (Builtin.append_ #[33, 33] ty #[.slice (some ⟨g, 0, none⟩) i cp, .slice (some A) (n - j) (cp - j)]).run Go.Proofs.Tryz.prog w.drew = .ok (.slice (some ⟨g, 0, none⟩) (i + (n - j)) cp) (w.drew.setRow g row1)) := fun ty => by
    rw [hrow1]
    refine run_app_room hu hinf g i cp cur hcurd A (n - j) (cp - j) news hnl hsrc.out s2.out (by omega) ?_
    rw [hnl, hsize, hsz, ← Nat.add_mul]
    exact Nat.mul_le_mul_right _ (by omega)
  have hr1s : row1.size = cur.size := by
    rw [hrow1]
    simp only [List.size_toArray, List.length_append, List.length_take, List.length_drop, hnl, hsize, Array.length_toList, hsz]
    have : (i + (n - j)) * 4 ≤ cp * 4 := Nat.mul_le_mul_right _ (by omega)
    omega
  obtain ⟨W1, hW1⟩ : ∃ W1, W1 = w.drew.setRow g row1 := ⟨_, rfl⟩
  have hcur1 : RowC W1 g row1 E := by rw [hW1]; exact hcurd.set hr1s
  have hW : Hid (W1 = w.drew.setRow g row1) := hW1
  obtain ⟨row2, hrow2⟩ : ∃ row2, row2 = (row1.toList.take ((i + (n - j)) * 4) ++ (madeCells ((.agg #[.int .i64 0, .int .i64 0, .int .i64 0, .slice none 0 0]) : Value).cells ((n - (i + (n - j))) * ((.agg #[.int .i64 0, .int .i64 0, .int .i64 0, .slice none 0 0]) : Value).cells.size)).toList ++ row1.toList.drop ((i + (n - j)) * 4 + (madeCells ((.agg #[.int .i64 0, .int .i64 0, .int .i64 0, .slice none 0 0]) : Value).cells ((n - (i + (n - j))) * ((.agg #[.int .i64 0, .int .i64 0, .int .i64 0, .slice none 0 0]) : Value).cells.size)).toList.length)).toArray := ⟨_, rfl⟩
  have hcl : ∀ ty, (Builtin.clear_ #[33] ty #[.slice (some ⟨g, (i + (n - j)) * 4, none⟩) (n - (i + (n - j))) (cp - (i + (n - j)))]).run Go.Proofs.Tryz.prog W1 = .ok (.tuple #[]) (W1.setRow g row2) := fun ty => by
    rw [hrow2]
    refine run_clr hu hinf hzero (by omega) hcur1 ?_ (by decide)
    show (i + (n - j)) * 4 + (n - (i + (n - j))) * 4 ≤ row1.size
    rw [hr1s, hsz, ← Nat.add_mul]
    exact Nat.mul_le_mul_right _ (by omega)
  have hr2 : Hid (row2 = (row1.toList.take ((i + (n - j)) * 4) ++ (madeCells ((.agg #[.int .i64 0, .int .i64 0, .int .i64 0, .slice none 0 0]) : Value).cells ((n - (i + (n - j))) * ((.agg #[.int .i64 0, .int .i64 0, .int .i64 0, .slice none 0 0]) : Value).cells.size)).toList ++ row1.toList.drop ((i + (n - j)) * 4 + (madeCells ((.agg #[.int .i64 0, .int .i64 0, .int .i64 0, .slice none 0 0]) : Value).cells ((n - (i + (n - j))) * ((.agg #[.int .i64 0, .int .i64 0, .int .i64 0, .slice none 0 0]) : Value).cells.size)).toList.length)).toArray) := hrow2
  have mixed : Go.Proofs.Tryz.prog.follows .mixedOrders = true := rfl
  have hic : i ≤ cp := by omega
  have hjc : j ≤ cp := by omega
  have hnt : Go.Proofs.Tryz.f250.ntmps = 33 := rfl
  have hlt : i ≤ j := by omega
  have hne : ¬ ((i : Int) = (j : Int)) := by omega
  have hk1 : inf.size = 4 := hsize
  have X0 : Aside (cs.length = n * 4) := hlen
  have X8 : Aside (RowC w.drew g cur E) := hcurd
  have X1 : Aside (RowC W1 g row1 E) := hcur1
  have X2 : Aside (row1 = (cur.toList.take (i * inf.size) ++ news ++ cur.toList.drop (i * inf.size + news.length)).toArray) := hrow1
  have X3 : Aside (news = cs.drop (j * 4)) := hnews
  have X4 : Aside (cur.toList.take cs.length = cs) := htk
  have X5 : Aside (news.length = (n - j) * inf.size) := hnl
  have X6 : Aside (row1.size = cur.size) := hr1s
  have X7 : Aside (cur.size = cp * 4) := hsz
  clear hcur1 hrow1 hnews htk hnl hr1s hrow2 hW1 hsz hfit hcur hcurd hlen
  try simp only [Nat.mul_one] at hA hcl
  go_enter Go.Proofs.Tryz.func250, hnt
  go_wp2_with fail
  go_region_law_o (refine step_app_run rfl (.tmp 22) (.tmp 25) 33 33 rfl _ _ (by simp [Act.eval, Act.put]) (by simp [Act.eval, Act.put]) (hap.out _) ?_; rw [← hW.out])
  go_wp2
  go_ret
  have hcur1 := X1.out
  have hrow1 := X2.out
  have hnews := X3.out
  have htk := X4.out
  have hnl := X5.out
  have hr1s := X6.out
  have hsz := X7.out
  have hlen := X0.out
  have hr2 := hr2.out
  have hW := hW.out
  rw [hk1] at hrow1 hnl
  have hz : (madeCells ((.agg #[.int .i64 0, .int .i64 0, .int .i64 0, .slice none 0 0]) : Value).cells ((n - (i + (n - j))) * ((.agg #[.int .i64 0, .int .i64 0, .int .i64 0, .slice none 0 0]) : Value).cells.size)).toList.length = (n - (i + (n - j))) * 4 := by
    rw [Array.length_toList, size_madeCells]; rfl
  generalize (madeCells ((.agg #[.int .i64 0, .int .i64 0, .int .i64 0, .slice none 0 0]) : Value).cells ((n - (i + (n - j))) * ((.agg #[.int .i64 0, .int .i64 0, .int .i64 0, .slice none 0 0]) : Value).cells.size)).toList = zs at hz hr2
  have hle : (i + (n - j)) * 4 ≤ row1.toList.length := by
    rw [Array.length_toList, hr1s, hsz]
    exact Nat.mul_le_mul_right _ (by omega)
  have hle2 : (i + (n - j)) * 4 + (n - (i + (n - j))) * 4 ≤ row1.toList.length := by
    rw [← Nat.add_mul, Array.length_toList, hr1s, hsz]
    exact Nat.mul_le_mul_right _ (by omega)
  have hr2s : row2.size = row1.size := by
    rw [hr2, List.size_toArray, List.length_append, List.length_append, List.length_take, List.length_drop, hz, Nat.min_eq_left hle]
    rw [Array.length_toList] at hle2 ⊢
    omega
  have hcl2 : (i + (n - j)) * 4 = i * 4 + (n - j) * 4 := Nat.add_mul _ _ _
  have hlt1 : (cs.take (i * 4)).length = i * 4 := by
    rw [List.length_take, hlen]
    exact Nat.min_eq_left (Nat.mul_le_mul_right _ (by omega))
  have hct : cur.toList.take (i * 4) = cs.take (i * 4) := by
    rw [← htk, List.take_take]
    congr 1
    rw [hlen]
    exact (Nat.min_eq_left (Nat.mul_le_mul_right _ (by omega))).symm
  refine ⟨congrArg Ending.returned (show Value.slice (some ⟨g, 0, none⟩) (i + (n - j)) cp = _ by rw [show i + (n - j) = n - (j - i) by omega]), ⟨row2, E, hcur1.set hr2s, by rw [hr2s, hr1s, hsz], ?_⟩, ?_, fun hn => ?_⟩
  · have e1 : (cs.take (i * 4) ++ cs.drop (j * 4)).length = (i + (n - j)) * 4 := by
      rw [List.length_append, hlt1, ← hnews, hnl, hcl2]
    rw [e1, hr2]
    show (row1.toList.take ((i + (n - j)) * 4) ++ zs ++ _).take ((i + (n - j)) * 4) = _
    rw [List.append_assoc, List.take_left' (by rw [List.length_take]; exact Nat.min_eq_left hle), hrow1]
    show (cur.toList.take (i * 4) ++ news ++ _).take ((i + (n - j)) * 4) = _
    rw [List.take_left' (by rw [List.length_append, hct, hlt1, hnl, hcl2]), hct, hnews]
  · rw [hW]
    have h1 : Went w w.drew (fun b => b = g) := ⟨rfl, rfl, rfl, Nat.le_refl _, fun _ _ _ => rfl⟩
    have h2 := went_setRow w.drew g row1
    have h3 := went_setRow (w.drew.setRow g row1) g row2
    refine ⟨h3.os.trans (h2.os.trans h1.os), h3.tape.trans (h2.tape.trans h1.tape), h3.output.trans (h2.output.trans h1.output), Nat.le_trans h1.size (Nat.le_trans h2.size h3.size), fun b hb hx => ?_⟩
    rw [h3.kept b (by simpa using hb) hx, h2.kept b hb hx]
    rfl
  · refine NoMk.set hcur1 ?_
    rw [hW]
    exact NoMk.set X8.out (fun cur E fz e => hn cur E fz e)
theorem deleteI_raw (g n cp i j : Nat) (cs : List Value) (w : World) (hrow : RowAt w g (cp * 1) cs) (hlen : cs.length = n * 1) (hn : n ≤ cp) (hij : i < j) (hj : j ≤ n) (h1 : ∀ v ∈ cs, v.oneCell' = true) :
    Calls Go.Proofs.Tryz.prog 220 #[.slice (some ⟨g, 0, none⟩) n cp, .int .i64 i, .int .i64 j] w fun e w' =>
      e = .returned (.slice (some ⟨g, 0, none⟩) (n - (j - i)) cp) ∧ RowAt w' g (cp * 1) (cs.take (i * 1) ++ cs.drop (j * 1)) ∧ Went w w' (fun b => b = g) ∧ (NoMk w g → NoMk w' g) := by
  obtain ⟨inf, hinf, hsize, hzero⟩ : ∃ inf, Go.Proofs.Tryz.prog.info? 3 = some inf ∧ inf.size = 1 ∧ inf.zero = some (.int .i64 0) := ⟨_, rfl, rfl, rfl⟩
  have hu : Go.Proofs.Tryz.prog.underlying 69 = some (.slice 3) := rfl
  obtain ⟨cur, E, hcur, hsz, htk⟩ := hrow
  have hfit : cs.length ≤ cur.toList.length := by
    have e : cur.toList.length = cur.size := by simp
    rw [e, hsz, hlen]
    exact Nat.mul_le_mul_right _ hn
  obtain ⟨news, hnews⟩ : ∃ news, news = cs.drop (j * 1) := ⟨_, rfl⟩
  have hnl : news.length = (n - j) * inf.size := by rw [hnews, List.length_drop, hlen, hsize]; omega
  obtain ⟨row1, hrow1⟩ : ∃ row1, row1 = (cur.toList.take (i * inf.size) ++ news ++ cur.toList.drop (i * inf.size + news.length)).toArray := ⟨_, rfl⟩
  have hcurd : RowC w.drew g cur E := hcur
  have hA : ∃ A : Addr, (if cp = j then (some ⟨g, 0, none⟩ : Option Addr) else some ⟨g, j * 1, none⟩) = some A ∧ Hid (∀ t u, news[t]? = some u → w.drew.cell? (A.add t) = some u) := by
    by_cases h : cp = j
    · refine ⟨⟨g, 0, none⟩, by simp [h], fun t u hu => ?_⟩
      have h0 : news = [] := List.eq_nil_of_length_eq_zero (by rw [hnl, show n - j = 0 by omega, Nat.zero_mul])
      rw [h0] at hu
      simp at hu
    · refine ⟨⟨g, j * 1, none⟩, by simp [h], fun t u hu => ?_⟩
      rw [Addr.add_lit, hcurd.cell]
      rw [hnews, List.getElem?_drop, ← htk, List.getElem?_take] at hu
      split at hu
      · simpa using hu
      · cases hu
  obtain ⟨A, hA, hsrc⟩ := hA
  have s2 : Hid (∀ u ∈ news, u.oneCell' = true) := fun u hu => h1 u (by rw [hnews] at hu; exact List.mem_of_mem_drop hu)
  have hap : Hid (∀ ty, (Builtin.append_ #[69, 69] ty #[.slice (some ⟨g, 0, none⟩) i cp, .slice (some A) (n - j) (cp - j)]).run Go.Proofs.Tryz.prog w.drew = .ok (.slice (some ⟨g, 0, none⟩) (i + (n - j)) cp) (w.drew.setRow g row1)) := fun ty => by
    rw [hrow1]
    refine run_app_room hu hinf g i cp cur hcurd A (n - j) (cp - j) news hnl hsrc.out s2.out (by omega) ?_
    rw [hnl, hsize, hsz, ← Nat.add_mul]
    exact Nat.mul_le_mul_right _ (by omega)
  have hr1s : row1.size = cur.size := by
    rw [hrow1]
    simp only [List.size_toArray, List.length_append, List.length_take, List.length_drop, hnl, hsize, Array.length_toList, hsz]
    have : (i + (n - j)) * 1 ≤ cp * 1 := Nat.mul_le_mul_right _ (by omega)
    omega
  obtain ⟨W1, hW1⟩ : ∃ W1, W1 = w.drew.setRow g row1 := ⟨_, rfl⟩
  have hcur1 : RowC W1 g row1 E := by rw [hW1]; exact hcurd.set hr1s
  have hW : Hid (W1 = w.drew.setRow g row1) := hW1
  obtain ⟨row2, hrow2⟩ : ∃ row2, row2 = (row1.toList.take ((i + (n - j)) * 1) ++ (madeCells ((.int .i64 0) : Value).cells ((n - (i + (n - j))) * ((.int .i64 0) : Value).cells.size)).toList ++ row1.toList.drop ((i + (n - j)) * 1 + (madeCells ((.int .i64 0) : Value).cells ((n - (i + (n - j))) * ((.int .i64 0) : Value).cells.size)).toList.length)).toArray := ⟨_, rfl⟩
  have hcl : ∀ ty, (Builtin.clear_ #[69] ty #[.slice (some ⟨g, (i + (n - j)) * 1, none⟩) (n - (i + (n - j))) (cp - (i + (n - j)))]).run Go.Proofs.Tryz.prog W1 = .ok (.tuple #[]) (W1.setRow g row2) := fun ty => by
    rw [hrow2]
    refine run_clr hu hinf hzero (by omega) hcur1 ?_ (by decide)
    show (i + (n - j)) * 1 + (n - (i + (n - j))) * 1 ≤ row1.size
    rw [hr1s, hsz, ← Nat.add_mul]
    exact Nat.mul_le_mul_right _ (by omega)
  have hr2 : Hid (row2 = (row1.toList.take ((i + (n - j)) * 1) ++ (madeCells ((.int .i64 0) : Value).cells ((n - (i + (n - j))) * ((.int .i64 0) : Value).cells.size)).toList ++ row1.toList.drop ((i + (n - j)) * 1 + (madeCells ((.int .i64 0) : Value).cells ((n - (i + (n - j))) * ((.int .i64 0) : Value).cells.size)).toList.length)).toArray) := hrow2
  have mixed : Go.Proofs.Tryz.prog.follows .mixedOrders = true := rfl
  have hic : i ≤ cp := by omega
  have hjc : j ≤ cp := by omega
  have hnt : Go.Proofs.Tryz.f220.ntmps = 33 := rfl
  have hlt : i ≤ j := by omega
  have hne : ¬ ((i : Int) = (j : Int)) := by omega
  have hk1 : inf.size = 1 := hsize
  have X0 : Aside (cs.length = n * 1) := hlen
  have X8 : Aside (RowC w.drew g cur E) := hcurd
  have X1 : Aside (RowC W1 g row1 E) := hcur1
  have X2 : Aside (row1 = (cur.toList.take (i * inf.size) ++ news ++ cur.toList.drop (i * inf.size + news.length)).toArray) := hrow1
  have X3 : Aside (news = cs.drop (j * 1)) := hnews
  have X4 : Aside (cur.toList.take cs.length = cs) := htk
  have X5 : Aside (news.length = (n - j) * inf.size) := hnl
  have X6 : Aside (row1.size = cur.size) := hr1s
  have X7 : Aside (cur.size = cp * 1) := hsz
  clear hcur1 hrow1 hnews htk hnl hr1s hrow2 hW1 hsz hfit hcur hcurd hlen
  try simp only [Nat.mul_one] at hA hcl
  go_enter Go.Proofs.Tryz.func220, hnt
  go_wp2_with fail
  go_region_law_o (refine step_app_run rfl (.tmp 22) (.tmp 25) 69 69 rfl _ _ (by simp [Act.eval, Act.put]) (by simp [Act.eval, Act.put]) (hap.out _) ?_; rw [← hW.out])
  go_wp2
  go_ret
  have hcur1 := X1.out
  have hrow1 := X2.out
  have hnews := X3.out
  have htk := X4.out
  have hnl := X5.out
  have hr1s := X6.out
  have hsz := X7.out
  have hlen := X0.out
  have hr2 := hr2.out
  have hW := hW.out
  rw [hk1] at hrow1 hnl
  have hz : (madeCells ((.int .i64 0) : Value).cells ((n - (i + (n - j))) * ((.int .i64 0) : Value).cells.size)).toList.length = (n - (i + (n - j))) * 1 := by
    rw [Array.length_toList, size_madeCells]; rfl
  generalize (madeCells ((.int .i64 0) : Value).cells ((n - (i + (n - j))) * ((.int .i64 0) : Value).cells.size)).toList = zs at hz hr2
  have hle : (i + (n - j)) * 1 ≤ row1.toList.length := by
    rw [Array.length_toList, hr1s, hsz]
    exact Nat.mul_le_mul_right _ (by omega)
  have hle2 : (i + (n - j)) * 1 + (n - (i + (n - j))) * 1 ≤ row1.toList.length := by
    rw [← Nat.add_mul, Array.length_toList, hr1s, hsz]
    exact Nat.mul_le_mul_right _ (by omega)
  have hr2s : row2.size = row1.size := by
    rw [hr2, List.size_toArray, List.length_append, List.length_append, List.length_take, List.length_drop, hz, Nat.min_eq_left hle]
    rw [Array.length_toList] at hle2 ⊢
    omega
  have hcl2 : (i + (n - j)) * 1 = i * 1 + (n - j) * 1 := Nat.add_mul _ _ _
  have hlt1 : (cs.take (i * 1)).length = i * 1 := by
    rw [List.length_take, hlen]
    exact Nat.min_eq_left (Nat.mul_le_mul_right _ (by omega))
  have hct : cur.toList.take (i * 1) = cs.take (i * 1) := by
    rw [← htk, List.take_take]
    congr 1
    rw [hlen]
    exact (Nat.min_eq_left (Nat.mul_le_mul_right _ (by omega))).symm
  refine ⟨congrArg Ending.returned (show Value.slice (some ⟨g, 0, none⟩) (i + (n - j)) cp = _ by rw [show i + (n - j) = n - (j - i) by omega]), ⟨row2, E, hcur1.set hr2s, by rw [hr2s, hr1s, hsz], ?_⟩, ?_, fun hn => ?_⟩
  · have e1 : (cs.take (i * 1) ++ cs.drop (j * 1)).length = (i + (n - j)) * 1 := by
      rw [List.length_append, hlt1, ← hnews, hnl, hcl2]
    rw [e1, hr2]
    show (row1.toList.take ((i + (n - j)) * 1) ++ zs ++ _).take ((i + (n - j)) * 1) = _
    rw [List.append_assoc, List.take_left' (by rw [List.length_take]; exact Nat.min_eq_left hle), hrow1]
    show (cur.toList.take (i * 1) ++ news ++ _).take ((i + (n - j)) * 1) = _
    rw [List.take_left' (by rw [List.length_append, hct, hlt1, hnl, hcl2]), hct, hnews]
  · rw [hW]
    have h1 : Went w w.drew (fun b => b = g) := ⟨rfl, rfl, rfl, Nat.le_refl _, fun _ _ _ => rfl⟩
    have h2 := went_setRow w.drew g row1
    have h3 := went_setRow (w.drew.setRow g row1) g row2
    refine ⟨h3.os.trans (h2.os.trans h1.os), h3.tape.trans (h2.tape.trans h1.tape), h3.output.trans (h2.output.trans h1.output), Nat.le_trans h1.size (Nat.le_trans h2.size h3.size), fun b hb hx => ?_⟩
    rw [h3.kept b (by simpa using hb) hx, h2.kept b hb hx]
    rfl
  · refine NoMk.set hcur1 ?_
    rw [hW]
    exact NoMk.set X8.out (fun cur E fz e => hn cur E fz e)
theorem deleteC_fn (xs : List D) (hs : ∀ x ∈ xs, x.size = 4) (i j : Nat) (hij : i < j) (hj : j ≤ xs.length) : FnM prog 250 false (.sl true 4 (ofL xs)) [.int .i64 i, .int .i64 j] (fun x' rs => (∃ u, x' = .lnk 0 u) ∧ rs = [.sl true 4 (ofL (xs.take i ++ xs.drop j))]) :=
  deleteM 4 (fun g n cp i j cs w h1 h2 h3 h4 h5 h6 => deleteC_raw g n cp i j cs w h1 h2 h3 h4 h5 h6) xs hs i j hij hj
theorem deleteI_fn (v : List Int) (i j : Nat) (hij : i < j) (hj : j ≤ v.length) : FnM prog 220 false (.sl true 1 (dl iD v)) [.int .i64 i, .int .i64 j] (fun x' rs => (∃ u, x' = .lnk 0 u) ∧ rs = [.sl true 1 (dl iD (v.take i ++ v.drop j))]) := by
  have h := deleteM (P := prog) (f := 220) 1 (fun g n cp i j cs w h1 h2 h3 h4 h5 h6 => deleteI_raw g n cp i j cs w h1 h2 h3 h4 h5 h6) (v.map iD) (fun x hx => by obtain ⟨n, _, rfl⟩ := List.mem_map.1 hx; rfl) i j hij (by simpa using hj)
  rw [← List.map_take, ← List.map_drop, ← List.map_append] at h
  exact h
end Go.Pe.Tryz
set_option maxRecDepth 100000
set_option maxHeartbeats 4000000
set_option linter.all false
namespace Go.Pe.Tryz
open Nat (reduceEqDiff reduceAdd reduceSub reduceLT)
open Go Go.RowKit Go.Shelf Go.Lib Go.Proofs.Tryz
theorem run_copy_row {P : Program} {w : World} {t ty e E : TypeId} {i : TypeInfo} (ht : P.underlying t = some (.slice e)) (hi : P.info? e = some i) {g off dn dc : Nat} {cur : Array Value} (hg : RowC w g cur E)
    (a : Addr) (sn sc : Nat) (news : List Value) (hl : news.length = Nat.min sn dn * i.size) (hnews : ∀ j u, news[j]? = some u → w.cell? (a.add j) = some u) (h1 : ∀ u ∈ news, u.oneCell' = true) (hfit : off + news.length ≤ cur.size) :
    (Builtin.copy_ #[t, t] ty #[.slice (some ⟨g, off, none⟩) dn dc, .slice (some a) sn sc]).run P w = .ok (goInt (Nat.min sn dn)) (w.setRow g (cur.toList.take off ++ news ++ cur.toList.drop (off + news.length)).toArray) := by
  have hf := run_firstCells_some (P := P) w i.size (Nat.min sn dn) a sn sc news hl hnews
  have hst := run_storeCells_fz P g off E news 0 cur w hg (by simpa using hfit) h1
  simp only [Nat.add_zero] at hst
  simp [Builtin.copy_, run_underlying ht, sizeOf, typeInfo, hi, Builtin.lenOf, hf, hst]
theorem step_copy_run {P : Program} {ops : Array Oper} {o : Oper} {a : Act} {w : World} {K : Act → World → Prop} {Q : Exit → Act → World → Prop} {E : Prop}
    (hg : o.guard = none) (d x : Operand) (dT sT : TypeId) (hop : o.op = Op.call { callee := Callee.builtin Builtin.copy, args := #[d, x], argTypes := #[dT, sT] })
    (v u : Value) (hd : a.eval d = v) (hx : a.eval x = u) {v' : Value} {w' : World} (hr : (Builtin.copy_ #[dT, sT] o.type #[v, u]).run P w = .ok v' w') (hK : K (a.put o.dst v') w') :
    if Region.wanted o (yielded ops a.tmps) = true then Oper.wp P o a w K Q else E := by
  have hw : Region.wanted o (yielded ops a.tmps) = true := by simp [Region.wanted, hg]
  rw [if_pos hw]
  unfold Oper.wp
  simp [execOp, hop, resolve, invoke, builtin, hd, hx, hr, Result.andThen]
  exact hK
def OwnSl (w : World) (es : Nat) (a : Option Addr) (n c : Nat) (cs : List Value) : Prop :=
  cs.length = n * es ∧ n ≤ c ∧ ((c = 0) ∨ ∃ g, a = some ⟨g, 0, none⟩ ∧ RowS w g es (c * es) cs)
def Grown (w : World) (es : Nat) (a : Option Addr) (c0 n : Nat) (cs : List Value) (v : Value) (w' : World) : Prop :=
  ∃ g c, v = .slice (some ⟨g, 0, none⟩) n c ∧ n ≤ c ∧ RowS w' g es (c * es) cs ∧ (w.heap.size ≤ g ∨ (c0 ≠ 0 ∧ a = some ⟨g, 0, none⟩)) ∧ Went w w' (fun b => c0 ≠ 0 ∧ a = some ⟨b, 0, none⟩)
theorem infoC : ∃ inf, Go.Proofs.Tryz.prog.info? 140 = some inf ∧ inf.size = 4 ∧ inf.bytes = 48 ∧ inf.zero = some (.agg #[.int .i64 0, .int .i64 0, .int .i64 0, .slice none 0 0]) := ⟨_, rfl, rfl, rfl, rfl⟩
theorem underC : Go.Proofs.Tryz.prog.underlying 33 = some (.slice 140) := rfl
theorem app_own (a : Option Addr) (n c vc : Nat) (va : Addr) (cs vs : List Value) (w : World) (h : OwnSl w 4 a n c cs) (hvl : vs.length = 4) (hv : ∀ j u, vs[j]? = some u → w.cell? (va.add j) = some u) (h1 : ∀ v ∈ vs, v.oneCell' = true) (hn : n ≤ 1048576) :
    ∃ v' w', (∀ ty, (Builtin.append_ #[33, 33] ty #[.slice a n c, .slice (some va) 1 vc]).run Go.Proofs.Tryz.prog w = .ok v' w') ∧ Grown w 4 a c (n + 1) (cs ++ vs) v' w' := by
  obtain ⟨hl, hc, h⟩ := h
  obtain ⟨inf, hinf, hsize, hbytes, hzero⟩ := infoC
  have hvl' : vs.length = 1 * inf.size := by rw [hsize, hvl]
  have hext : ∀ (ob : Obj) (X : Nat → Prop), Went w (w.drew.alloc ob) X := fun ob X => Went.of_ext (drew_ext w ob) X
  rcases h with rfl | ⟨g, rfl, hrow⟩
  · have h0 : n = 0 := by omega
    subst h0
    have hcs : cs = [] := List.eq_nil_of_length_eq_zero (by simpa using hl)
    subst hcs
    refine ⟨_, _, fun ty => run_app_zero (ty := ty) underC hinf hzero a va 1 vc vs hvl' hv (by omega) (by omega) (by rw [hbytes]; omega), ?_⟩
    have hge := grownCap_ge w 1 0 140
    refine ⟨w.heap.size, _, rfl, hge, ⟨⟨_, _, RowC.new w.drew _ _, ?_, by simp⟩, fun _ => NoMk.new w.drew _ _⟩, .inl (Nat.le_refl _), hext _ _⟩
    rw [Array.size_append, List.size_toArray, size_zeroCells, hvl]
    show 4 + (grownCap w 1 0 _ - 1) * 4 = _
    omega
  · obtain ⟨⟨cur, E, hcur, hsz, htk⟩, hnm⟩ := hrow
    by_cases hroom : n + 1 ≤ c
    · have hfit : n * inf.size + vs.length ≤ cur.size := by
        rw [hsize, hvl, hsz]; omega
      refine ⟨_, _, fun ty => run_app_room (ty := ty) underC hinf g n c cur hcur va 1 vc vs hvl' hv h1 hroom hfit, ?_⟩
      refine ⟨g, c, rfl, hroom, ⟨⟨_, E, hcur.set ?_, ?_, ?_⟩, fun he => (hnm he).set hcur⟩, .inr ⟨by omega, rfl⟩, ?_⟩
      · simp only [List.size_toArray, List.length_append, List.length_take, List.length_drop, Array.length_toList]
        rw [Nat.min_eq_left (by omega)]; omega
      · rw [← hsz]
        simp only [List.size_toArray, List.length_append, List.length_take, List.length_drop]
        have : cur.toList.length = cur.size := by simp
        rw [Nat.min_eq_left (by omega)]; omega
      · have e1 : cur.toList.take (n * inf.size) = cs := by rw [hsize, ← hl]; exact htk
        show (cur.toList.take (n * inf.size) ++ vs ++ _).take (cs ++ vs).length = _
        rw [e1, List.take_left]
      · have := went_setRow w g (cur.toList.take (n * inf.size) ++ vs ++ cur.toList.drop (n * inf.size + vs.length)).toArray
        exact ⟨this.os, this.tape, this.output, this.size, fun b hb hx => this.kept b hb fun e => hx ⟨by omega, by rw [e]⟩⟩
    · have hcell0 : ∀ j u, cs[j]? = some u → w.cell? ((⟨g, 0, none⟩ : Addr).add j) = some u := by
        have := Holds.of_row (M := fun _ => False) (⟨cur, E, hcur, hsz, htk⟩ : RowAt w g _ cs) (fun h => h)
        rcases this with h8 | h8
        · exact fun j u hu => by rw [h8] at hu; simp at hu
        · exact h8.2.2
      refine ⟨_, _, fun ty => run_append_grow (P := Go.Proofs.Tryz.prog) w _ ty _ inf _ underC hinf hzero ⟨g, 0, none⟩ n c cs (by rw [hsize]; exact hl) hcell0 va 1 vc vs hvl' hv (by omega) (by omega) (by rw [hbytes]; exact growslice_fits (by omega) (by omega)), ?_⟩
      have hge := grownCap_ge w (n + 1) c 140
      refine ⟨w.heap.size, _, rfl, hge, ⟨⟨_, _, RowC.new w.drew _ _, ?_, ?_⟩, fun _ => NoMk.new w.drew _ _⟩, .inl (Nat.le_refl _), hext _ _⟩
      · rw [Array.size_append, Array.size_append, List.size_toArray, List.size_toArray, size_zeroCells, hvl, hl]
        show n * 4 + 4 + (grownCap w (n + 1) c _ - (n + 1)) * 4 = _
        omega
      · rw [Array.toList_append, Array.toList_append]; exact List.take_left
theorem insertC_end (a : Option Addr) (n c vc : Nat) (va : Addr) (cs vs : List Value) (w : World) (h : OwnSl w 4 a n c cs) (hvl : vs.length = 4) (hv : ∀ j u, vs[j]? = some u → w.cell? (va.add j) = some u) (h1 : ∀ v ∈ vs, v.oneCell' = true) (hn : n ≤ 1048576) :
    Calls Go.Proofs.Tryz.prog 173 #[.slice a n c, .int .i64 n, .slice (some va) 1 vc] w fun e w' => ∃ v, e = .returned v ∧ Grown w 4 a c (n + 1) (cs ++ vs) v w' := by
  obtain ⟨v', w', hrun, hG⟩ := app_own a n c vc va cs vs w h hvl hv h1 hn
  have hc := h.2.1
  clear h hv h1
  have mixed : Go.Proofs.Tryz.prog.follows .mixedOrders = true := rfl
  have hnt : Go.Proofs.Tryz.f173.ntmps = 95 := rfl
  have hG' : Hid (Grown w 4 a c (n + 1) (cs ++ vs) v' w') := hG
  clear hG
  go_enter Go.Proofs.Tryz.func173, hnt
  cases a with
  | none =>
    go_wp2_with (at_builtin; refine Lib.wpList_append_run _ rfl _ _ _ _ rfl _ _ rfl rfl _ _ (hrun _) ?_)
    all_goals (go_ret; first | exact ⟨v', rfl, hG'.out⟩ | (have hx := hG'.out; rw [‹c = n›] at hx; exact ⟨v', rfl, hx⟩))
  | some ad =>
    obtain ⟨ab, ao, asp⟩ := ad
    go_wp2_with (at_builtin; refine Lib.wpList_append_run _ rfl _ _ _ _ rfl _ _ rfl rfl _ _ (hrun _) ?_)
    all_goals (go_ret; first | exact ⟨v', rfl, hG'.out⟩ | (have hx := hG'.out; rw [‹c = n›] at hx; exact ⟨v', rfl, hx⟩))
theorem take_eq_of {cs : List Value} {cur : List Value} (h : cur.take cs.length = cs) {k : Nat} (hk : k ≤ cs.length) : cur.take k = cs.take k := by
  conv => rhs; rw [← h]
  rw [List.take_take, Nat.min_eq_left hk]
theorem insertC_grow (g n c i vc : Nat) (va : Addr) (cs vs : List Value) (w : World) (hl : cs.length = n * 4) (hc : n ≤ c) (hrow : RowS w g 4 (c * 4) cs) (hvl : vs.length = 4) (hv : ∀ j u, vs[j]? = some u → w.cell? (va.add j) = some u) (h1 : ∀ v ∈ vs, v.oneCell' = true) (h1c : ∀ v ∈ cs, v.oneCell' = true) (hn : n ≤ 1048576) (hi : i < n) (hfull : c < n + 1) :
    Calls Go.Proofs.Tryz.prog 173 #[.slice (some ⟨g, 0, none⟩) n c, .int .i64 i, .slice (some va) 1 vc] w fun e w' => ∃ v, e = .returned v ∧ Grown w 4 (some ⟨g, 0, none⟩) c (n + 1) (cs.take (i * 4) ++ vs ++ cs.drop (i * 4)) v w' := by
  obtain ⟨inf, hinf, hsize, hbytes, hzero⟩ := infoC
  obtain ⟨⟨cur, E, hcur, hsz, htk⟩, hnm⟩ := hrow
  have hfit : cs.length ≤ cur.toList.length := by
    have e : cur.toList.length = cur.size := by simp
    rw [e, hsz, hl]; omega
  have hcell : ∀ j u, cs[j]? = some u → w.cell? ⟨g, j, none⟩ = some u := fun j u hu => by
    rw [hcur.cell, ← Array.getElem?_toList]
    rw [← htk, List.getElem?_take] at hu
    split at hu
    · exact hu
    · cases hu
  have hgl := hcur.lt
  have hvl' : vs.length = Nat.min 1 (n + 1 - i) * inf.size := by
    rw [hsize, hvl, show Nat.min 1 (n + 1 - i) = 1 from Nat.min_eq_left (by omega)]
  have hva : va.block < w.heap.size := by
    obtain ⟨u, hu⟩ := get_lt (show 0 < vs.length by omega)
    have := block_lt_of_cell (hv 0 u hu)
    rwa [show (va.add 0).block = va.block from by unfold Addr.add; split <;> rfl] at this
  have hkk : (n : Int) + (1 : Int) - (i : Int) = ((n + 1 - i : Nat) : Int) := by omega
  have hik : i + (n + 1 - i) = n + 1 := by omega
  have hold : (Builtin.firstCells inf.size i (.slice (some ⟨g, 0, none⟩) i c)).run Go.Proofs.Tryz.prog w.drew = .ok (cs.take (i * 4)).toArray w.drew :=
    run_firstCells_some w.drew inf.size i ⟨g, 0, none⟩ i c (cs.take (i * 4)) (by rw [List.length_take, hl, hsize]; omega) (fun j v hj => by
      rw [Addr.add_lit, Nat.zero_add]
      rw [List.getElem?_take] at hj
      split at hj
      · exact hcell j v hj
      · cases hj)
  obtain ⟨G, hG⟩ : ∃ G, G = grownCap w (n + 1) c 140 := ⟨_, rfl⟩
  obtain ⟨N, hN⟩ : ∃ N, N = w.heap.size := ⟨_, rfl⟩
  have hGn : n + 1 ≤ G := by rw [hG]; exact grownCap_ge w _ _ _
  obtain ⟨ROW, hROW⟩ : ∃ ROW : Array Value, ROW = (cs.take (i * 4)).toArray ++ Builtin.zeroCells (Value.agg #[.int .i64 0, .int .i64 0, .int .i64 0, .slice none 0 0]).cells (n + 1 - i) ++ Builtin.zeroCells (Value.agg #[.int .i64 0, .int .i64 0, .int .i64 0, .slice none 0 0]).cells (G - (n + 1)) := ⟨_, rfl⟩
  obtain ⟨W1, hW1⟩ : ∃ W1, W1 = w.drew.alloc (.cells ROW 140) := ⟨_, rfl⟩
  have hrz : ∀ ty, (Builtin.append_ #[33, 3] ty #[.slice (some ⟨g, 0, none⟩) i c, .int .i64 ((n : Int) + (1 : Int) - (i : Int))]).run Go.Proofs.Tryz.prog w = .ok (.slice (some ⟨N, 0, none⟩) (n + 1) G) W1 := fun ty => by
    have h := Lib.run_append_grow_zeros (P := Go.Proofs.Tryz.prog) w 33 3 ty 140 inf _ .i64 .i64 underC rfl hinf hzero (some ⟨g, 0, none⟩) i c (cs.take (i * 4)) hold (n + 1 - i) (by omega) (by omega) (by omega) (by omega) (by rw [hbytes]; omega) (by rw [hbytes, hik]; exact growslice_fits (by omega) (by omega))
    rw [hik, ← hG, ← hROW, ← hW1, ← hN] at h
    rw [hkk]
    exact h
  have hRl : ROW.size = G * 4 := by
    rw [hROW, Array.size_append, Array.size_append, List.size_toArray, size_zeroCells, size_zeroCells, List.length_take, hl, Nat.min_eq_left (by omega)]
    show i * 4 + (n + 1 - i) * 4 + (G - (n + 1)) * 4 = _
    omega
  have hRt : ROW.toList.take (i * 4) = cs.take (i * 4) := by
    rw [hROW, Array.toList_append, Array.toList_append, List.append_assoc]
    exact List.take_left' (by rw [List.length_take, hl]; omega)
  have hc1 : RowC W1 N ROW 140 := by rw [hW1, hN]; exact RowC.new w.drew _ _
  have hm1 : NoMk W1 N := by rw [hW1, hN]; exact NoMk.new w.drew _ _
  have hx1 : Ext w W1 := by rw [hW1]; exact drew_ext w _
  obtain ⟨row2, hrow2⟩ : ∃ row2, row2 = (ROW.toList.take (i * 4) ++ vs ++ ROW.toList.drop (i * 4 + vs.length)).toArray := ⟨_, rfl⟩
  obtain ⟨W2, hW2⟩ : ∃ W2, W2 = W1.setRow N row2 := ⟨_, rfl⟩
  have hRL : ROW.toList.length = ROW.size := by simp
  have h2s : row2.size = ROW.size := by
    rw [hrow2, List.size_toArray, List.length_append, List.length_append, List.length_take, List.length_drop, hvl, hRL, hRl]
    omega
  have hcpA : ∀ ty dc, (Builtin.copy_ #[33, 33] ty #[.slice (some ⟨N, i * 4, none⟩) (n + 1 - i) dc, .slice (some va) 1 vc]).run Go.Proofs.Tryz.prog W1 = .ok (goInt (Nat.min 1 (n + 1 - i))) W2 := fun ty dc => by
    rw [hW2, hrow2]
    refine run_copy_row underC hinf hc1 va 1 vc vs hvl' (fun j u hu => ?_) h1 (by rw [hvl, hRl]; omega)
    rw [World.cell?_of_block (w := w) (by rw [show (va.add j).block = va.block from by unfold Addr.add; split <;> rfl]; exact hx1.block _ hva)]
    exact hv j u hu
  have hc2 : RowC W2 N row2 140 := by rw [hW2]; exact hc1.set h2s
  have hm2 : NoMk W2 N := by rw [hW2]; exact hm1.set hc1
  have hk2 : ∀ b, b < w.heap.size → W2.heap[b]? = w.heap[b]? := fun b hb => by
    rw [hW2, setRow_other _ _ _ _ (by omega)]
    exact hx1.block b hb
  have hc2d : RowC W2.drew N row2 140 := hc2
  obtain ⟨row3, hrow3⟩ : ∃ row3, row3 = (row2.toList.take ((i + 1) * 4) ++ cs.drop (i * 4) ++ row2.toList.drop ((i + 1) * 4 + (cs.drop (i * 4)).length)).toArray := ⟨_, rfl⟩
  obtain ⟨W3, hW3⟩ : ∃ W3, W3 = W2.drew.setRow N row3 := ⟨_, rfl⟩
  have hdl : (cs.drop (i * 4)).length = (n - i) * 4 := by rw [List.length_drop, hl]; omega
  have hR2L : row2.toList.length = row2.size := by simp
  have h3s : row3.size = row2.size := by
    rw [hrow3, List.size_toArray, List.length_append, List.length_append, List.length_take, List.length_drop, List.length_drop, hl, hR2L, h2s, hRl]
    omega
  have hmin : Nat.min (n - i) (n + 1 - (i + 1)) = n - i := by
    have : n + 1 - (i + 1) = n - i := by omega
    rw [this]; exact Nat.min_self _
  have hcpB : ∀ ty, (Builtin.copy_ #[33, 33] ty #[.slice (some ⟨N, (i + 1) * 4, none⟩) (n + 1 - (i + 1)) (G - (i + 1)), .slice (some ⟨g, i * 4, none⟩) (n - i) (c - i)]).run Go.Proofs.Tryz.prog W2.drew = .ok (goInt (Nat.min (n - i) (n + 1 - (i + 1)))) W3 := fun ty => by
    rw [hW3, hrow3]
    refine run_copy_row underC hinf hc2d ⟨g, i * 4, none⟩ (n - i) (c - i) (cs.drop (i * 4)) (by rw [hdl, hmin, hsize]) (fun j u hu => ?_) (fun v hv => h1c v (List.mem_of_mem_drop hv)) (by rw [hdl, h2s, hRl]; omega)
    rw [Addr.add_lit]
    rw [List.getElem?_drop] at hu
    show W2.cell? ⟨g, i * 4 + j, none⟩ = some u
    rw [World.cell?_of_block (w := w) (a := ⟨g, i * 4 + j, none⟩) (hk2 g hgl)]
    exact hcell _ u hu
  have hfin : Hid (Grown w 4 (some ⟨g, 0, none⟩) c (n + 1) (cs.take (i * 4) ++ vs ++ cs.drop (i * 4)) (.slice (some ⟨N, 0, none⟩) (n + 1) G) W3) := by
    refine ⟨N, G, rfl, hGn, ⟨⟨row3, 140, by rw [hW3]; exact hc2d.set h3s, by rw [h3s, h2s, hRl], ?_⟩, fun _ => by rw [hW3]; exact NoMk.set hc2d (fun cur E fz e => hm2 cur E fz e)⟩, .inl (by omega), ?_⟩
    · have e0 : (cs.take (i * 4) ++ vs).length = (i + 1) * 4 := by rw [List.length_append, List.length_take, hl, hvl, Nat.min_eq_left (by omega)]; omega
      have e2 : row2.toList.take ((i + 1) * 4) = cs.take (i * 4) ++ vs := by
        rw [hrow2, hRt]
        show (cs.take (i * 4) ++ vs ++ _).take ((i + 1) * 4) = _
        exact List.take_left' e0
      rw [hrow3, e2]
      show (cs.take (i * 4) ++ vs ++ cs.drop (i * 4) ++ _).take (cs.take (i * 4) ++ vs ++ cs.drop (i * 4)).length = _
      rw [List.take_left]
    · have hd := went_setRow W2.drew N row3
      have ha := went_setRow W1 N row2
      rw [← hW2] at ha
      rw [← hW3] at hd
      refine ⟨hd.os.trans (ha.os.trans hx1.os), hd.tape.trans (ha.tape.trans hx1.tape), hd.output.trans (ha.output.trans hx1.output), Nat.le_trans hx1.size (Nat.le_trans ha.size hd.size), fun b hb _ => ?_⟩
      rw [hW3, setRow_other _ _ _ _ (by omega)]
      exact hk2 b hb
  have mixed : Go.Proofs.Tryz.prog.follows .mixedOrders = true := rfl
  have hnt : Go.Proofs.Tryz.f173.ntmps = 95 := rfl
  have q1 : ¬ ((i : Int) = (n : Int)) := by omega
  have q2 : (c : Int) < (n : Int) + 1 := by omega
  have q3 : ¬ (G = i) := by omega
  have q4 : ¬ (G = i + 1) := by omega
  have q5 : ¬ (c = i) := by omega
  have q6 : i ≤ n := by omega
  have q7 : i ≤ c := by omega
  have hw1 : IntKind.i64.wrap ((i : Int) + (1 : Int)) = (i : Int) + (1 : Int) := by rw [IntKind.wrap_i64]; omega
  have hb1 : (0 : Int) ≤ (i : Int) + (1 : Int) := by omega
  have htn : ((i : Int) + (1 : Int)).toNat = i + 1 := by omega
  have hb3 : (i : Int) ≤ (n : Int) := by omega
  have X1 : Hid (∀ ty, (Builtin.append_ #[33, 3] ty #[.slice (some ⟨g, 0, none⟩) i c, .int .i64 ((n : Int) + (1 : Int) - (i : Int))]).run Go.Proofs.Tryz.prog w = .ok (.slice (some ⟨N, 0, none⟩) (n + 1) G) W1) := hrz
  have X2 : Hid (∀ ty dc, (Builtin.copy_ #[33, 33] ty #[.slice (some ⟨N, i * 4, none⟩) (n + 1 - i) dc, .slice (some va) 1 vc]).run Go.Proofs.Tryz.prog W1 = .ok (goInt (Nat.min 1 (n + 1 - i))) W2) := hcpA
  have X3 : Hid (∀ ty, (Builtin.copy_ #[33, 33] ty #[.slice (some ⟨N, (i + 1) * 4, none⟩) (n + 1 - (i + 1)) (G - (i + 1)), .slice (some ⟨g, i * 4, none⟩) (n - i) (c - i)]).run Go.Proofs.Tryz.prog W2.drew = .ok (goInt (Nat.min (n - i) (n + 1 - (i + 1)))) W3) := hcpB
  clear hcpB X2 hrz hold hrow3 hrow2 hW1 hW2 hW3 hROW hRl hRt hc1 hm1 hx1 hRL h2s hc2 hm2 hk2 hc2d hdl hR2L h3s hmin hv h1 h1c hcell hcur hnm htk hsz hfit hva hvl hvl' hl hkk hik hG hN hgl hinf hsize hbytes hzero
  go_enter Go.Proofs.Tryz.func173, hnt
  go_wp2_with (first
    | (at_builtin; refine Lib.wpList_append_run _ rfl _ _ _ _ rfl _ _ rfl rfl _ _ (X1.out _) ?_)
    | fail)
  go_region_law_o (refine step_copy_run rfl _ _ 33 33 rfl _ _ (by simp [Act.eval, Act.put]) (by simp [Act.eval, Act.put]) (X3.out _) ?_)
  go_wp2
  go_ret
  exact ⟨_, rfl, hfin.out⟩
end Go.Pe.Tryz
set_option maxRecDepth 100000
set_option maxHeartbeats 4000000
set_option linter.all false
namespace Go.Pe.Tryz
open Nat (reduceEqDiff reduceAdd reduceSub reduceLT)
open Go Go.RowKit Go.Shelf Go.Lib Go.Proofs.Tryz
theorem run_overlaps_own {P : Program} (w : World) (tS tR e : TypeId) (ht : P.underlying tS = some (.slice e)) (size : Nat) (hz : ∀ w, (Go.sizeOf e).run P w = .ok size w)
    (a b : Addr) (la ca lb cb : Nat) (hne : a.block ≠ b.block) (tA tB : TypeId) (kA kB : Nat)
    (hsa : w.shape? a.block = some (tA, kA)) (hkA : kA ≠ 0) (hsb : w.shape? b.block = some (tB, kB))
    (hfb : w.frozen? b = false) (hfe : w.frozen? { block := b.block, off := kB } = false) :
    (Extern.SlicesOverlaps.overlaps #[tS, tS] #[tR] #[.slice (some a) la ca, .slice (some b) lb cb]).run P w = .ok (.bool false) w := by
  have hnb : (a.block != b.block) = true := by simpa using hne
  have hnb' : (a.block == b.block) = false := by simpa using hne
  change Sem.run P (α := Value) (underlying tS >>= _) w = _
  by_cases h0 : la = 0 ∨ lb = 0 ∨ size = 0
  · simp [run_underlying ht, hz, h0]
  · cases kA with
    | zero => exact absurd rfl hkA
    | succ kA =>
      cases h1 : w.frozen? a <;> cases h2 : w.frozen? { block := a.block, off := kA + 1 } <;>
        simp [run_underlying ht, hz, h0, hnb, hnb', frozen, noView, viewAt, mayBeOne, stringish, shape, Sem.run, hsa, hsb, hfb, hfe, h1, h2]
theorem noMk_frozen {w : World} {g : Nat} {cur : Array Value} {E : TypeId} (h : RowC w g cur E) (hn : NoMk w g) (k : Nat) : w.frozen? ⟨g, k, none⟩ = false := by
  obtain ⟨fz, h1, _⟩ := h
  have := hn _ _ _ h1
  obtain ⟨lo, hi⟩ := fz
  simp only [World.frozen?, h1, Bool.and_eq_false_iff, decide_eq_false_iff_not]
  simp only at this
  omega
theorem noMk_shape {w : World} {g : Nat} {cur : Array Value} {E : TypeId} (h : RowC w g cur E) : w.shape? g = some (E, cur.size) := by
  obtain ⟨fz, h1, _⟩ := h
  simp [World.shape?, h1]
theorem shape_of_cell {w : World} {a : Addr} {v : Value} (h : w.cell? a = some v) : ∃ t k, w.shape? a.block = some (t, k) ∧ k ≠ 0 := by
  unfold World.cell? at h
  unfold World.shape?
  split at h
  · rename_i c t fz hb
    split at h
    · cases h
    · refine ⟨t, c.size, rfl, fun e => ?_⟩
      have := (Array.getElem?_eq_some_iff.1 h).1
      omega
  · cases h
theorem insertC_shift (g n c i vc : Nat) (va : Addr) (cs vs : List Value) (w : World) (hl : cs.length = n * 4) (hrow : RowS w g 4 (c * 4) cs) (hvl : vs.length = 4) (hv : ∀ j u, vs[j]? = some u → w.cell? (va.add j) = some u) (hvg : va.block ≠ g) (h1 : ∀ v ∈ vs, v.oneCell' = true) (h1c : ∀ v ∈ cs, v.oneCell' = true) (hn : n ≤ 1048576) (hi : i < n) (hroom : n + 1 ≤ c) :
    Calls Go.Proofs.Tryz.prog 173 #[.slice (some ⟨g, 0, none⟩) n c, .int .i64 i, .slice (some va) 1 vc] w fun e w' => ∃ v, e = .returned v ∧ Grown w 4 (some ⟨g, 0, none⟩) c (n + 1) (cs.take (i * 4) ++ vs ++ cs.drop (i * 4)) v w' := by
  obtain ⟨inf, hinf, hsize, hbytes, hzero⟩ := infoC
  obtain ⟨⟨cur, E, hcur, hsz, htk⟩, hnm⟩ := hrow
  have hnm := hnm (by decide)
  have hcl : cur.toList.length = cur.size := by simp
  have hblk : ∀ j, (va.add j).block = va.block := fun j => by unfold Addr.add; split <;> rfl
  have hvl' : vs.length = Nat.min 1 (n + 1 - i) * inf.size := by
    rw [hsize, hvl, show Nat.min 1 (n + 1 - i) = 1 from Nat.min_eq_left (by omega)]
  obtain ⟨tA, kA, hsa, hkA⟩ : ∃ t k, w.shape? va.block = some (t, k) ∧ k ≠ 0 := by
    obtain ⟨u, hu⟩ := get_lt (show 0 < vs.length by omega)
    have := shape_of_cell (hv 0 u hu)
    rwa [hblk] at this
  have hov : ∀ lb cb, (callFunc 218 #[.slice (some va) 1 vc, .slice (some ⟨g, (i + 1) * 4, none⟩) lb cb]).run Go.Proofs.Tryz.prog w = .ok (.value (.bool false)) w := fun lb cb => by
    rw [run_callFunc_extern (by rfl : Go.Proofs.Tryz.prog.funcs[218]? = some Go.Proofs.Tryz.f218) (by kernel_rfl) (by kernel_rfl) (by kernel_rfl) (e := Extern.SlicesOverlaps.overlaps #[33, 33] #[4]) (by kernel_rfl),
      run_overlaps_own w 33 4 140 underC 4 (fun w => by simp [sizeOf, typeInfo, hinf, hsize]) va ⟨g, (i + 1) * 4, none⟩ 1 vc lb cb hvg tA E kA cur.size hsa hkA (noMk_shape hcur) (noMk_frozen hcur hnm _) (noMk_frozen hcur hnm _)]
    rfl
  have hcurd : RowC w.drew g cur E := hcur
  obtain ⟨row1, hrow1⟩ : ∃ row1, row1 = (cur.toList.take ((i + 1) * 4) ++ cs.drop (i * 4) ++ cur.toList.drop ((i + 1) * 4 + (cs.drop (i * 4)).length)).toArray := ⟨_, rfl⟩
  obtain ⟨W1, hW1⟩ : ∃ W1, W1 = w.drew.setRow g row1 := ⟨_, rfl⟩
  have hdl : (cs.drop (i * 4)).length = (n - i) * 4 := by rw [List.length_drop, hl]; omega
  have h1s : row1.size = cur.size := by
    rw [hrow1, List.size_toArray, List.length_append, List.length_append, List.length_take, List.length_drop, List.length_drop, hl, hcl, hsz]
    omega
  have hmin : Nat.min (n + 1 - i) (n + 1 - (i + 1)) = n - i := by
    have : n + 1 - (i + 1) = n - i := by omega
    rw [this]; exact Nat.min_eq_right (by omega)
  have hcpB : ∀ ty, (Builtin.copy_ #[33, 33] ty #[.slice (some ⟨g, (i + 1) * 4, none⟩) (n + 1 - (i + 1)) (c - (i + 1)), .slice (some ⟨g, i * 4, none⟩) (n + 1 - i) (c - i)]).run Go.Proofs.Tryz.prog w.drew = .ok (goInt (Nat.min (n + 1 - i) (n + 1 - (i + 1)))) W1 := fun ty => by
    rw [hW1, hrow1]
    refine run_copy_row underC hinf hcurd ⟨g, i * 4, none⟩ (n + 1 - i) (c - i) (cs.drop (i * 4)) (by rw [hdl, hmin, hsize]) (fun j u hu => ?_) (fun v hv => h1c v (List.mem_of_mem_drop hv)) (by rw [hdl, hsz]; omega)
    rw [Addr.add_lit, hcurd.cell, ← Array.getElem?_toList]
    rw [List.getElem?_drop, ← htk, List.getElem?_take] at hu
    split at hu
    · exact hu
    · cases hu
  have hc1 : RowC W1 g row1 E := by rw [hW1]; exact hcurd.set h1s
  have hm1 : NoMk W1 g := by rw [hW1]; exact NoMk.set hcurd (fun cur E fz e => hnm cur E fz e)
  have hR1L : row1.toList.length = row1.size := by simp
  obtain ⟨row2, hrow2⟩ : ∃ row2, row2 = (row1.toList.take (i * 4) ++ vs ++ row1.toList.drop (i * 4 + vs.length)).toArray := ⟨_, rfl⟩
  obtain ⟨W2, hW2⟩ : ∃ W2, W2 = W1.setRow g row2 := ⟨_, rfl⟩
  have h2s : row2.size = row1.size := by
    rw [hrow2, List.size_toArray, List.length_append, List.length_append, List.length_take, List.length_drop, hvl, hR1L, h1s, hsz]
    omega
  have hcpA : ∀ ty dc, (Builtin.copy_ #[33, 33] ty #[.slice (some ⟨g, i * 4, none⟩) (n + 1 - i) dc, .slice (some va) 1 vc]).run Go.Proofs.Tryz.prog W1 = .ok (goInt (Nat.min 1 (n + 1 - i))) W2 := fun ty dc => by
    rw [hW2, hrow2]
    refine run_copy_row underC hinf hc1 va 1 vc vs hvl' (fun j u hu => ?_) h1 (by rw [hvl, h1s, hsz]; omega)
    rw [World.cell?_of_block (w := w) (by rw [hblk, hW1, setRow_other _ _ _ _ hvg]; rfl)]
    exact hv j u hu
  have hfin : Hid (Grown w 4 (some ⟨g, 0, none⟩) c (n + 1) (cs.take (i * 4) ++ vs ++ cs.drop (i * 4)) (.slice (some ⟨g, 0, none⟩) (n + 1) c) W2) := by
    refine ⟨g, c, rfl, hroom, ⟨⟨row2, E, by rw [hW2]; exact hc1.set h2s, by rw [h2s, h1s, hsz], ?_⟩, fun _ => by rw [hW2]; exact hm1.set hc1⟩, .inr ⟨by omega, rfl⟩, ?_⟩
    · have ht : cur.toList.take (i * 4) = cs.take (i * 4) := take_eq_of htk (by rw [hl]; omega)
      have e1 : row1.toList.take (i * 4) = cs.take (i * 4) := by
        rw [hrow1]
        show (cur.toList.take ((i + 1) * 4) ++ cs.drop (i * 4) ++ _).take (i * 4) = _
        rw [List.append_assoc, List.take_append_of_le_length (by rw [List.length_take, hcl, hsz]; omega), List.take_take, Nat.min_eq_left (by omega), ht]
      have e2 : (row1.toList.drop (i * 4 + vs.length)).take ((n - i) * 4) = cs.drop (i * 4) := by
        rw [hrow1, hvl]
        show ((cur.toList.take ((i + 1) * 4) ++ cs.drop (i * 4) ++ _).drop (i * 4 + 4)).take ((n - i) * 4) = _
        rw [List.append_assoc, show i * 4 + 4 = (i + 1) * 4 by omega, List.drop_left' (by rw [List.length_take, hcl, hsz]; omega)]
        exact List.take_left' hdl
      have hlt : (cs.take (i * 4)).length = i * 4 := by rw [List.length_take, hl]; omega
      rw [hrow2, e1]
      show (cs.take (i * 4) ++ vs ++ row1.toList.drop (i * 4 + vs.length)).take (cs.take (i * 4) ++ vs ++ cs.drop (i * 4)).length = _
      have el : (cs.take (i * 4) ++ vs ++ cs.drop (i * 4)).length = (cs.take (i * 4) ++ vs).length + (n - i) * 4 := by rw [List.length_append, hdl]
      rw [el, List.take_append, List.take_of_length_le (Nat.le_add_right _ _), Nat.add_sub_cancel_left, e2]
    · have hd := went_setRow w.drew g row1
      have ha := went_setRow W1 g row2
      rw [← hW1] at hd
      rw [← hW2] at ha
      refine ⟨ha.os.trans hd.os, ha.tape.trans hd.tape, ha.output.trans hd.output, Nat.le_trans hd.size ha.size, fun b hb hx => ?_⟩
      have hbg : b ≠ g := fun e => hx ⟨by omega, by rw [e]⟩
      rw [hW2, setRow_other _ _ _ _ hbg, hW1, setRow_other _ _ _ _ hbg]
      rfl
  have mixed : Go.Proofs.Tryz.prog.follows .mixedOrders = true := rfl
  have hnt : Go.Proofs.Tryz.f173.ntmps = 95 := rfl
  have q1 : ¬ ((i : Int) = (n : Int)) := by omega
  have q2 : ¬ ((c : Int) < (n : Int) + 1) := by omega
  have q3 : ¬ (c = n) := by omega
  have q4 : ¬ (c = i + 1) := by omega
  have q5 : ¬ (c = i) := by omega
  have q6 : i ≤ n := by omega
  have q7 : i ≤ c := by omega
  have hw1 : IntKind.i64.wrap ((i : Int) + (1 : Int)) = (i : Int) + (1 : Int) := by rw [IntKind.wrap_i64]; omega
  have hw2 : IntKind.i64.wrap ((n : Int) + (1 : Int)) = (n : Int) + (1 : Int) := by rw [IntKind.wrap_i64]; omega
  have hb1 : (0 : Int) ≤ (i : Int) + (1 : Int) := by omega
  have hb2 : (0 : Int) ≤ (n : Int) + (1 : Int) := by omega
  have htn : ((i : Int) + (1 : Int)).toNat = i + 1 := by omega
  have htn2 : ((n : Int) + (1 : Int)).toNat = n + 1 := by omega
  have hb3 : (i : Int) ≤ (n : Int) := by omega
  have hb4 : (n : Int) + 1 ≤ (c : Int) := by omega
  have hb5 : (i : Int) + 1 ≤ (n : Int) + 1 := by omega
  have hb6 : (i : Int) ≤ (n : Int) + 1 := by omega
  have X3 : Hid (∀ ty, (Builtin.copy_ #[33, 33] ty #[.slice (some ⟨g, (i + 1) * 4, none⟩) (n + 1 - (i + 1)) (c - (i + 1)), .slice (some ⟨g, i * 4, none⟩) (n + 1 - i) (c - i)]).run Go.Proofs.Tryz.prog w.drew = .ok (goInt (Nat.min (n + 1 - i) (n + 1 - (i + 1)))) W1) := hcpB
  clear hcpB hrow1 hrow2 hW1 hW2 hc1 hm1 h2s h1s hcurd hdl hR1L hmin hv h1 h1c hcur hnm htk hsz hvl hvl' hl hinf hsize hbytes hzero hcl hblk hsa hkA hvg
  go_enter Go.Proofs.Tryz.func173, hnt
  go_wp2_with (simp only [hov])
  go_region_law_o (refine step_copy_run rfl _ _ 33 33 rfl _ _ (by simp [Act.eval, Act.put]) (by simp [Act.eval, Act.put]) (X3.out _) ?_)
  go_wp2
  go_ret
  exact ⟨_, rfl, hfin.out⟩
theorem insertC_raw (a : Option Addr) (n c i vc : Nat) (va : Addr) (cs vs : List Value) (w : World) (h : OwnSl w 4 a n c cs) (hvl : vs.length = 4) (hv : ∀ j u, vs[j]? = some u → w.cell? (va.add j) = some u) (hvg : a ≠ some ⟨va.block, 0, none⟩) (h1 : ∀ v ∈ vs, v.oneCell' = true) (h1c : ∀ v ∈ cs, v.oneCell' = true) (hn : n ≤ 1048576) (hi : i ≤ n) :
    Calls Go.Proofs.Tryz.prog 173 #[.slice a n c, .int .i64 i, .slice (some va) 1 vc] w fun e w' => ∃ v, e = .returned v ∧ Grown w 4 a c (n + 1) (cs.take (i * 4) ++ vs ++ cs.drop (i * 4)) v w' := by
  by_cases hin : i = n
  · subst hin
    have h2 := insertC_end a i c vc va cs vs w h hvl hv h1 hn
    rw [← h.1, List.take_length, List.drop_length, List.append_nil]
    exact h2
  · obtain ⟨hl, hc, h⟩ := h
    rcases h with rfl | ⟨g, rfl, hrow⟩
    · omega
    · by_cases hroom : n + 1 ≤ c
      · exact insertC_shift g n c i vc va cs vs w hl hrow hvl hv (fun e => hvg (by rw [e])) h1 h1c hn (by omega) hroom
      · exact insertC_grow g n c i vc va cs vs w hl hc hrow hvl hv h1 h1c hn (by omega) (by omega)
theorem insertC_fn (xs : List D) (y : D) (hs : ∀ x ∈ xs, x.size = 4) (hy : y.size = 4) (i : Nat) (hi : i ≤ xs.length) (hn : xs.length ≤ 1048576) :
    FnM prog 173 false (.sl true 4 (ofL xs)) [.int .i64 i, .sl false 4 (.cons y .nil)] (fun x' rs => (∃ u, x' = .lnk 0 u) ∧ rs = [.sl true 4 (ofL (xs.take i ++ y :: xs.drop i))]) := by
  intro M oc vs w hM hob hnd hlt hG hr
  obtain ⟨_, us1, f1, f2, rfl, e0, ⟨rfl, rfl⟩, cv, us2, f3, f4, rfl, e1, hsv, rfl, rfl⟩ := hr
  have e1' : f3 = [] := by
    rw [e1] at e0
    simpa using e0.symm
  subst e1'
  obtain ⟨_, av, vc, dv, fpv, rfl, hvc, hv3, hv4⟩ := hsv
  simp only [Bool.false_eq_true, if_false] at hv4
  obtain ⟨rfl, _, hv5⟩ := hv4
  obtain ⟨y1, y2, p1, p2, rfl, e2, hyr, rfl, rfl⟩ := hv3
  have e2' : p1 = [] := by simpa using e2.symm
  subst e2'
  rw [List.append_nil] at hv5
  have hyl : y1.length = 4 := by rw [rep_length _ _ _ hyr, hy]
  have hy1 := rep_one _ _ _ hyr
  rcases hv5 with hv5 | ⟨va, rfl, hH⟩
  · exact absurd hv5 (by simp [D.len])
  rcases hH with hH | ⟨hvb, hvM, hvcell⟩
  · rw [hH] at hyl; simp at hyl
  obtain ⟨cs0, hrep, hv⟩ := hob
  obtain ⟨hL, a, c, ds, fps, rfl, hc, h3, h4⟩ := hrep
  rw [len_ofL] at hc hv
  simp only [if_true] at h4
  have hone := rep_one _ _ _ h3
  have hdl : ds.length = xs.length * 4 := by rw [rep_length _ _ _ h3, size_ofL _ hs]
  have hv' : mkV false oc = .slice a xs.length c := by
    show oc.v = _
    rw [hv]; rfl
  rw [hv']
  have hO : OwnSl w 4 a xs.length c ds := ⟨hdl, hc, h4.imp (fun h => h.1) fun ⟨g, h1, h2, _⟩ => ⟨g, h1, h2⟩⟩
  have hag : ∀ b, c ≠ 0 ∧ a = some ⟨b, 0, none⟩ → oc.fp = b :: fps := fun b hb => by
    rcases h4 with ⟨h, _⟩ | ⟨g, h1, _, h2⟩
    · exact absurd h hb.1
    · have h3 := hb.2
      rw [h1] at h3
      injection h3 with h3
      injection h3 with h3
      rw [h2, ← h3]
  have hfpo : ∀ b ∈ fps, b ∈ oc.fp := fun b hb => by
    rcases h4 with ⟨_, h, _⟩ | ⟨g, _, _, h2⟩
    · rw [h] at hb; cases hb
    · rw [h2]; simp [hb]
  have hfpn : fps.Nodup := by
    rcases h4 with ⟨_, h, _⟩ | ⟨g, _, _, h2⟩
    · rw [h]; exact List.nodup_nil
    · rw [h2] at hnd; exact (List.nodup_cons.1 hnd).2
  have h3' := h3
  rw [← List.take_append_drop i xs] at h3'
  obtain ⟨c1, c2, q1, q2, ed, ef, r1, r2⟩ := (rep_append _ _ _ _).1 h3'
  have l1 : c1.length = i * 4 := by
    rw [rep_length _ _ _ r1, size_ofL _ (fun y hy => hs y (List.mem_of_mem_take hy)), List.length_take, Nat.min_eq_left (by omega)]
  have t1 : ds.take (i * 4) = c1 := by rw [ed, ← l1, List.take_left]
  have t2 : ds.drop (i * 4) = c2 := by rw [ed, ← l1, List.drop_left]
  have hcall : Calls Go.Proofs.Tryz.prog 173 #[.slice a xs.length c, .int .i64 i, .slice (some va) 1 vc] w fun e w' => ∃ v, e = .returned v ∧ Grown w 4 a c (xs.length + 1) (c1 ++ y1 ++ c2) v w' := by
    rw [← t1, ← t2]
    by_cases hin : i = xs.length
    · have h2 := insertC_end a xs.length c vc va ds y1 w hO hyl hvcell hy1 hn
      rw [hin, ← hdl, List.take_length, List.drop_length, List.append_nil]
      exact h2
    · refine insertC_raw a xs.length c i vc va ds y1 w hO hyl hvcell (fun h => hvM (.inr ?_)) hy1 hone hn hi
      rw [hag va.block ⟨by omega, h⟩]; simp
  refine hcall.mono ?_
  rintro e w' ⟨v, rfl, g, c', rfl, k1, k2, k3, k4⟩
  have hgn : g ∉ fps := fun h => by
    rcases k3 with k3 | k3
    · have := (hlt g (hfpo g h)).1; omega
    · rw [hag g k3] at hnd; exact (List.nodup_cons.1 hnd).1 h
  have hsub : ∀ b ∈ g :: fps, (b ∈ oc.fp ∨ w.heap.size ≤ b) := fun b hb => by
    rcases List.mem_cons.1 hb with rfl | hb
    · rcases k3 with k3 | k3
      · exact .inr k3
      · rw [hag b k3]; exact .inl (by simp)
    · exact .inl (hfpo b hb)
  have hgw : g < w'.heap.size := k2.lt
  have keep : ∀ b, b < w.heap.size → (b ∈ fps ∨ ¬ (M b ∨ b ∈ oc.fp)) → w'.heap[b]? = w.heap[b]? := fun b hb hx => by
    refine k4.kept b hb fun e => ?_
    have hfp := hag b e
    rcases hx with hx | hx
    · rw [hfp] at hnd; exact (List.nodup_cons.1 hnd).1 hx
    · exact hx (.inr (by rw [hfp]; simp))
  have hMs : ∀ b, b < w.heap.size → (M b ∨ b ∈ [] ++ (g :: fps)) → (M b ∨ b ∈ oc.fp) := fun b hb h => by
    rcases h with h | h
    · exact .inl h
    · rcases hsub b (by simpa using h) with h | h
      · exact .inr h
      · omega
  have frame : ∀ (q : D) (cs : List Value) (p : List Nat), (∀ b ∈ p, b ∈ fps) → q.rep w (fun b => M b ∨ b ∈ oc.fp) cs p → q.rep w' (fun b => M b ∨ b ∈ [] ++ (g :: fps)) cs p := fun q cs p hp hq =>
    rep_frame k4.size hMs _ _ _ (fun b hb hx => keep b hb (hx.imp (hp b) id)) hq
  have hq1 : ∀ b ∈ q1, b ∈ fps := fun b hb => by rw [ef]; simp [hb]
  have hq2 : ∀ b ∈ q2, b ∈ fps := fun b hb => by rw [ef]; simp [hb]
  have hl' : (xs.take i ++ y :: xs.drop i).length = xs.length + 1 := by simp; omega
  refine ⟨.lnk 0 oc.v, _, [.slice (some ⟨g, 0, none⟩) (xs.length + 1) c'], [], g :: fps, rfl, ⟨⟨_, rfl⟩, rfl⟩, ⟨[oc.v], ⟨rfl, by rw [hv]; rfl, rfl⟩, rfl⟩, ?_, ?_, fun b hb => ?_, ?_⟩
  · refine ⟨[.slice (some ⟨g, 0, none⟩) (xs.length + 1) c'], [], g :: fps, [], rfl, by simp, ⟨(isL_ofL _).2 fun x hx => ?_, some ⟨g, 0, none⟩, c', c1 ++ (y1 ++ c2), fps, by rw [len_ofL, hl'], by rw [len_ofL, hl']; exact k1, ?_, ?_⟩, rfl, rfl⟩
    · rcases List.mem_append.1 hx with hx | hx
      · exact hs x (List.mem_of_mem_take hx)
      · rcases List.mem_cons.1 hx with rfl | hx
        · exact hy
        · exact hs x (List.mem_of_mem_drop hx)
    · refine (rep_append _ _ _ _).2 ⟨c1, y1 ++ c2, q1, q2, rfl, ef, frame _ _ _ hq1 r1, ⟨y1, c2, [], q2, rfl, rfl, frame _ _ _ (fun _ h => by cases h) hyr, frame _ _ _ hq2 r2⟩⟩
    · simp only [if_true]
      exact .inr ⟨g, rfl, by rw [← List.append_assoc]; exact k2, rfl⟩
  · simpa using List.nodup_cons.2 ⟨hgn, hfpn⟩
  · have hb' : b ∈ g :: fps := by simpa using hb
    refine ⟨hsub b hb', ?_⟩
    rcases List.mem_cons.1 hb' with rfl | h
    · exact hgw
    · have := (hlt b (hfpo b h)).1
      have := k4.size
      omega
  · exact ⟨k4.os, k4.tape, k4.output, k4.size, fun b hb hx => k4.kept b hb fun e => hx (by rw [hag b e]; simp)⟩
end Go.Pe.Tryz
set_option maxRecDepth 100000
set_option maxHeartbeats 4000000
set_option linter.all false
namespace Go.Pe.Tryz
open Nat (reduceEqDiff reduceAdd reduceSub reduceLT)
open Go.Proofs.Tryz
end Go.Pe.Tryz
set_option maxRecDepth 100000
set_option maxHeartbeats 4000000
set_option linter.all false
namespace Go.Pe.Tryz
open Nat (reduceEqDiff reduceAdd reduceSub reduceLT)
open Go.Proofs.Tryz
end Go.Pe.Tryz
set_option maxRecDepth 100000
set_option maxHeartbeats 4000000
set_option linter.all false
namespace Go.Pe.Tryz
open Nat (reduceEqDiff reduceAdd reduceSub reduceLT)
open Go.Proofs.Tryz
end Go.Pe.Tryz
set_option maxRecDepth 100000
set_option maxHeartbeats 4000000
set_option linter.all false
namespace Go.Pe.Tryz
open Nat (reduceEqDiff reduceAdd reduceSub reduceLT)
open Go.Proofs.Tryz
end Go.Pe.Tryz
set_option maxRecDepth 100000
set_option maxHeartbeats 4000000
set_option linter.all false
namespace Go.Pe.Tryz
open Nat (reduceEqDiff reduceAdd reduceSub reduceLT)
open Go.Proofs.Tryz
theorem within_iff {n a b : Int} : within n a b = true ↔ a ≤ n ∧ n ≤ b := by
  simp [within]
end Go.Pe.Tryz
set_option maxRecDepth 100000
set_option maxHeartbeats 4000000
set_option linter.all false
namespace Go.Pe.Tryz
open Nat (reduceEqDiff reduceAdd reduceSub reduceLT)
open Go.Proofs.Tryz
def App.p (x : App) (da dh : D) : D := .st (.cons (.int .i64 x.i) (.cons (.int .i64 x.q) (.cons (.int .i64 x.d) (.cons da (.cons dh (.cons (.int .i64 x.s) .nil))))))
def App.o (x : App) : D := x.p (.sl true 1 (dl iD x.a)) (.sl true 1 (dl iD x.h))
theorem take_snoc {α : Type} {xs : List α} {i : Nat} {r : α} (hr : xs[i]? = some r) : xs.take (i + 1) = xs.take i ++ [r] := by
  have hi := lt_of_get hr
  rw [List.take_succ_eq_append_getElem hi]
  rw [List.getElem?_eq_getElem hi] at hr
  injection hr with hr
  rw [hr]
end Go.Pe.Tryz
set_option maxRecDepth 100000
set_option maxHeartbeats 4000000
set_option linter.all false
namespace Go.Pe.Tryz
open Nat (reduceEqDiff reduceAdd reduceSub reduceLT)
open Go.Proofs.Tryz
theorem App.o_unown (x : App) : x.o.unown = x.d' := by simp [App.o, App.p, App.d', D.unown, ints_unown]
theorem App.o_own (x : App) : x.o.allOwn = true := by simp [App.o, App.p, D.allOwn, dl_allOwn iD_allOwn]
theorem App.o_noOwn (x : App) : x.o.noOwn = false := by simp [App.o, App.p, D.noOwn]
theorem App.o_isV (x : App) : x.o.isV = true := rfl
theorem App.o_size (x : App) : x.o.size = 6 := rfl
theorem cloneI_fn (v : List Int) (hlen : v.length ≤ 1048576) : Fn prog 171 [.sl false 1 (dl iD v)] (fun rs => rs = [.sl true 1 (dl iD v)]) := by
  refine Fn_of' (fn := f171) (by exact func171) c171 r171 (n := 8) (by rfl) (rv := [.tmp 2]) (by rfl) (by simp) ?_
  unfold m171
  try simp only [wQ]
  simp only [↓wA, ↓wC, wB, frzBE, frzBS, reduceEqDiff, reduceAdd, reduceSub, reduceIte, reduceCtorEq, Nat.reduceBEq, reduceLT]
  refine nilQ_i (fun h => ?_) ?_
  · rw [dl_len] at h
    have e : v = [] := List.length_eq_zero_iff.1 h
    subst e
    simp only [↓wA, ↓wC, wB, frzBE, frzBS, reduceEqDiff, reduceAdd, reduceSub, reduceIte, reduceCtorEq, Nat.reduceBEq, reduceLT]
    refine take_nil 1 ?_
    rfl
  · simp only [dl_len, ↓wA, ↓wC, wB, frzBE, frzBS, reduceEqDiff, reduceAdd, reduceSub, reduceIte, reduceCtorEq, Nat.reduceBEq, reduceLT]
    refine onC_i ⟨by omega, by omega⟩ ?_
    simp only [↓wA, ↓wC, wB, frzBE, frzBS, reduceEqDiff, reduceAdd, reduceSub, reduceIte, reduceCtorEq, Nat.reduceBEq, reduceLT]
end Go.Pe.Tryz
set_option maxRecDepth 100000
set_option maxHeartbeats 4000000
set_option linter.all false
namespace Go.Pe.Tryz
open Nat (reduceEqDiff reduceAdd reduceSub reduceLT)
open Go.Proofs.Tryz
theorem isNaN_fn (a : Int) : Fn prog 306 [.int .i64 a] (fun rs => rs = [.bool false]) := by
  refine Fn_of' (fn := f306) (by exact func306) c306 r306 (n := 6) (by rfl) (rv := [.tmp 2]) (by rfl) (by simp) ?_
  unfold m306
  try simp only [wQ]
  simp only [↓wA, ↓wC, wB, frzBE, frzBS, reduceEqDiff, reduceAdd, reduceSub, reduceIte, reduceCtorEq, Nat.reduceBEq, reduceLT]
theorem cmpLess_fn (a b : Int) : Fn prog 282 [.int .i64 a, .int .i64 b] (fun rs => rs = [.bool (decide (a < b))]) := by
  have h1 := isNaN_fn a
  have h2 := isNaN_fn b
  refine Fn_of' (fn := f282) (by exact func282) c282 r282 (n := 17) (by rfl) (rv := [.tmp 4]) (by rfl) (by simp) ?_
  unfold m282
  try simp only [wQ]
  repeat' (first | (simp only [↓wA, ↓wC, wB, frzBE, frzBS, reduceEqDiff, reduceAdd, reduceSub, reduceIte, reduceCtorEq, Nat.reduceBEq, reduceLT]) | (refine call_det (h1) rfl rfl ?_) | (refine callP_det (h1) rfl rfl ?_) | (refine call_det (h2) rfl rfl ?_) | (refine callP_det (h2) rfl rfl ?_) | ((first | apply execG_split | apply execC_split | apply onPick_split) <;> intro h <;> try simp only [h]))
def lenTab (n : Nat) : Int := [0, 1, 2, 2, 3, 3, 3, 3].getD n 0
theorem len64_fn (n : Nat) (h : n ≤ 7) : Fn prog 286 [.int .u64 n] (fun rs => rs = [.int .i64 (lenTab n)]) := by
  have h1 : decide ((4294967296 : Int) ≤ (n : Int)) = false := decide_eq_false (by omega)
  have h2 : decide ((65536 : Int) ≤ (n : Int)) = false := decide_eq_false (by omega)
  have h3 : decide ((256 : Int) ≤ (n : Int)) = false := decide_eq_false (by omega)
  have h8 : n = 0 ∨ n = 1 ∨ n = 2 ∨ n = 3 ∨ n = 4 ∨ n = 5 ∨ n = 6 ∨ n = 7 := by omega
  refine Fn_of' (fn := f286) (by exact func286) c286 r286 (n := 25) (by rfl) (rv := [.tmp 2]) (by rfl) (by simp) ?_
  unfold m286
  try simp only [wQ]
  repeat' (first | (simp only [onC_true, h1, h2, h3, ↓wA, ↓wC, wB, frzBE, frzBS, reduceEqDiff, reduceAdd, reduceSub, reduceIte, reduceCtorEq, Nat.reduceBEq, reduceLT]) | (with_reducible refine onI_bare ?_ ?_; focus (simp only [InR]; omega)) | ((first | apply execG_split | apply execC_split | apply onPick_split) <;> intro h <;> try simp only [h]))
  rcases h8 with rfl | rfl | rfl | rfl | rfl | rfl | rfl | rfl
  all_goals
    refine onC_i (by decide) ?_
    refine ⟨_, rfl, ?_⟩
    refine onI_bare (by simp only [InR]; decide) ?_
    simp only [↓wA, ↓wC, wB, frzBE, frzBS, reduceEqDiff, reduceAdd, reduceSub, reduceIte, reduceCtorEq, Nat.reduceBEq, reduceLT]
    refine onI_bare (by simp only [InR]; decide) ?_
    simp only [↓wA, ↓wC, wB, frzBE, frzBS, reduceEqDiff, reduceAdd, reduceSub, reduceIte, reduceCtorEq, Nat.reduceBEq, reduceLT]
    rfl
def pos (p : Int) : List Int → Nat
  | [] => 0
  | a :: t => if a < p then pos p t + 1 else 0
def putI (p : Int) (v : List Int) : List Int := v.take (pos p v) ++ p :: v.drop (pos p v)
theorem pos_eq {p : Int} : ∀ (v : List Int) (j : Nat), j ≤ v.length → (∀ m x, m < j → v[m]? = some x → x < p) → (∀ x, v[j]? = some x → ¬ x < p) → pos p v = j
  | [], j, h, _, _ => by
    simp at h
    subst h
    rfl
  | a :: t, 0, _, _, h3 => by
    rw [pos, if_neg (h3 a rfl)]
  | a :: t, j + 1, h, h2, h3 => by
    rw [pos, if_pos (h2 0 a (by omega) rfl), pos_eq t j (by simpa using h) (fun m x hm hx => h2 (m + 1) x (by omega) (by simpa using hx)) (fun x hx => h3 x (by simpa using hx))]
def risen (v : List Int) : Prop := ∀ j a b, v[j]? = some a → v[j + 1]? = some b → a < b
theorem risen_lt {v : List Int} (h : risen v) : ∀ (k m : Nat) (a b : Int), m < k → v[m]? = some a → v[k]? = some b → a < b
  | 0, m, a, b, hm, _, _ => by omega
  | k + 1, m, a, b, hm, ha, hb => by
    by_cases e : m = k
    · subst e; exact h m a b ha hb
    · obtain ⟨c, hc⟩ := get_lt (show k < v.length by have := lt_of_get hb; omega)
      have h1 := risen_lt h k m a c (by omega) ha hc
      have h2 := h k c b hc hb
      omega
def mv (p : Int) (v : List Int) (j : Nat) : List Int := v.take j ++ p :: v.drop j
theorem mv_len {p : Int} {v : List Int} {j : Nat} (h : j ≤ v.length) : (mv p v j).length = v.length + 1 := by simp [mv]; omega
theorem mv_n {p : Int} {v : List Int} : mv p v v.length = v ++ [p] := by simp [mv]
theorem mv_at {p : Int} {v : List Int} {j : Nat} (h : j ≤ v.length) : (mv p v j)[j]? = some p := by
  rw [mv, List.getElem?_append_right (by simp; omega), List.length_take, Nat.min_eq_left h, Nat.sub_self]; rfl
theorem mv_bf {p x : Int} {v : List Int} {k : Nat} (h : v[k]? = some x) : (mv p v (k + 1))[k]? = some x := by
  have hk := lt_of_get h
  rw [mv, List.getElem?_append_left (by simp; omega), List.getElem?_take_of_lt (by omega)]
  exact h
theorem mv_swap {p x : Int} {v : List Int} {k : Nat} (h : v[k]? = some x) : ((mv p v (k + 1)).set (k + 1) x).set k p = mv p v k := by
  have hk := lt_of_get h
  rw [mv, take_snoc h, mv, adrop_get h, List.append_assoc]
  have hl : (v.take k).length = k := by simp; omega
  rw [List.set_append_right _ _ (by omega), hl, show k + 1 - k = 1 by omega, List.set_append_right _ _ (by omega), hl, Nat.sub_self]
  rfl
theorem insSort_fn (p : Int) (v : List Int) (hr : risen v) (hp : p ∉ v) (hlen : v.length ≤ 6) : FnM prog 276 false (.sl true 1 (dl iD (v ++ [p]))) [.int .i64 0, .int .i64 (v.length + 1)] (fun x' rs => x' = .sl true 1 (dl iD (putI p v)) ∧ rs = []) := by
  have hput : ∀ j, j ≤ v.length → (∀ m x, m < j → v[m]? = some x → x < p) → (∀ x, v[j]? = some x → ¬ x < p) → mv p v j = putI p v := fun j h1 h2 h3 => by rw [putI, pos_eq v j h1 h2 h3, mv]
  have hnp : ∀ {m x : _}, v[m]? = some x → x ≠ p := fun {m x} h e => hp (e ▸ List.mem_of_getElem? h)
  refine FnM_of' (fn := f276) (by exact func276) c276 r276 (n := 49) (by rfl) (rv := []) (by rfl) (by decide) (by simp) ?_
  unfold m276
  try simp only [wQ]
  simp only [dl_len, ↓wA, ↓wC, wB, frzBE, frzBS, reduceEqDiff, reduceAdd, reduceSub, reduceIte, reduceCtorEq, Nat.reduceBEq, reduceLT]
  refine onI_bare (by simp only [InR]; omega) ?_
  refine exec_loop (fun i : Nat => ⟨[(0, .own 0), (1, .d (.int .i64 0)), (2, .d (.int .i64 (v.length + 1))), (6, .d (.int .i64 i))], [.val (.sl true 1 (dl iD (if i ≤ v.length then v ++ [p] else putI p v)))]⟩) (fun i => 1 ≤ i ∧ i ≤ v.length + 1) (fun i => v.length + 1 - i) 1 ?_ ⟨by omega, by omega⟩ ?_
  · have e : (if 1 ≤ v.length then v ++ [p] else putI p v) = v ++ [p] := by
      split
      · rfl
      · rename_i h
        have h0 : v.length = 0 := by omega
        have e : v = [] := List.length_eq_zero_iff.1 h0
        subst e
        rfl
    rw [e]
    exact (weak_of _ rfl ⟨⟨rfl, rfl⟩, ⟨rfl, rfl⟩, ⟨rfl, rfl⟩, ⟨rfl, rfl⟩, trivial⟩)
  rintro i ⟨hi1, hi2⟩
  by_cases hin : i = v.length + 1
  · subst hin
    have hd : decide (((v.length + 1 : Nat) : Int) < (v.length : Int) + 1) = false := decide_eq_false (by omega)
    rw [if_neg (by omega)]
    simp only [hd, ↓wA, ↓wC, wB, frzBE, frzBS, reduceEqDiff, reduceAdd, reduceSub, reduceIte, reduceCtorEq, Nat.reduceBEq, reduceLT]
  · have hd : decide ((i : Int) < (v.length : Int) + 1) = true := decide_eq_true (by omega)
    rw [if_pos (by omega)]
    by_cases hlt : i < v.length
    · obtain ⟨k, rfl⟩ : ∃ k, i = k + 1 := ⟨i - 1, by omega⟩
      obtain ⟨y, hy⟩ := get_lt hlt
      obtain ⟨x, hx⟩ := get_lt (show k < v.length by omega)
      have hxy := hr k x y hx hy
      have h1 : decide (0 < ((k + 1 : Nat) : Int)) = true := decide_eq_true (by omega)
      have h2 : decide (y < x) = false := decide_eq_false (by omega)
      have hn1 : (((k + 1 : Nat) : Int) - 1).toNat = k := by omega
      have h0 : (0 : Int) ≤ ((k + 1 : Nat) : Int) := by omega
      have h0' : (0 : Int) ≤ ((k + 1 : Nat) : Int) - 1 := by omega
      have hg1 : (v ++ [p])[k + 1]? = some y := by rw [List.getElem?_append_left hlt]; exact hy
      have hg2 : (v ++ [p])[k]? = some x := by rw [List.getElem?_append_left (by omega)]; exact hx
      simp only [hd, ↓wA, ↓wC, wB, frzBE, frzBS, reduceEqDiff, reduceAdd, reduceSub, reduceIte, reduceCtorEq, Nat.reduceBEq, reduceLT]
      refine exec_loop (fun _ : Unit => ⟨[(0, .own 0), (1, .d (.int .i64 0)), (2, .d (.int .i64 (v.length + 1))), (6, .d (.int .i64 ((k + 1 : Nat) : Int))), (7, .d (.int .i64 ((k + 1 : Nat) : Int)))], [.val (.sl true 1 (dl iD (v ++ [p])))]⟩) (fun _ => True) (fun _ => 0) () (weak_of _ rfl ⟨⟨rfl, rfl⟩, ⟨rfl, rfl⟩, ⟨rfl, rfl⟩, ⟨rfl, rfl⟩, ⟨rfl, rfl⟩, trivial⟩) trivial ?_
      rintro _ _
      repeat' (first | (simp only [dl_len, rd_iD, h1, h2, hn1, h0, h0', dl_nth, hg1, hg2, Option.map_some, onC_true, Int.toNat_natCast, dget_int, doff_int, size_int, ↓wA, ↓wC, wB, frzBE, frzBS, reduceEqDiff, reduceAdd, reduceSub, reduceIte, reduceCtorEq, Nat.reduceBEq, reduceLT]) | (refine call_det (cmpLess_fn y x) rfl rfl ?_) | (refine callP_det (cmpLess_fn y x) rfl rfl ?_) | (refine callP_det (cmpLess_fn _ _) rfl rfl ?_) | (with_reducible refine onI_bare ?_ ?_; focus (simp only [InR]; omega)) | ((first | apply execG_split | apply execC_split | apply onPick_split) <;> intro h <;> try simp only [h]))
      refine ⟨k + 1 + 1, ?_, ⟨by omega, by omega⟩, by omega⟩
      rw [if_pos (by omega)]
      exact (weak_of _ rfl ⟨⟨rfl, rfl⟩, ⟨rfl, rfl⟩, ⟨rfl, rfl⟩, ⟨rfl, rfl⟩, trivial⟩)
    · have e : i = v.length := by omega
      subst e
      simp only [hd, ↓wA, ↓wC, wB, frzBE, frzBS, reduceEqDiff, reduceAdd, reduceSub, reduceIte, reduceCtorEq, Nat.reduceBEq, reduceLT]
      refine exec_loop (fun j : Nat => ⟨[(0, .own 0), (1, .d (.int .i64 0)), (2, .d (.int .i64 (v.length + 1))), (6, .d (.int .i64 (v.length : Int))), (7, .d (.int .i64 j))], [.val (.sl true 1 (dl iD (mv p v j)))]⟩) (fun j => j ≤ v.length ∧ ∀ x, v[j]? = some x → ¬ x < p) (fun j => j) v.length ?_ ⟨Nat.le_refl _, fun x hx => absurd (lt_of_get hx) (by omega)⟩ ?_
      · rw [mv_n]; exact (weak_of _ rfl ⟨⟨rfl, rfl⟩, ⟨rfl, rfl⟩, ⟨rfl, rfl⟩, ⟨rfl, rfl⟩, ⟨rfl, rfl⟩, trivial⟩)
      rintro j ⟨hj, hjx⟩
      cases j with
      | zero =>
        have hf := hput 0 hj (fun m x hm _ => by omega) hjx
        have h1 : decide (0 < ((0 : Nat) : Int)) = false := rfl
        repeat' (first | (simp only [h1, ↓wA, ↓wC, wB, frzBE, frzBS, reduceEqDiff, reduceAdd, reduceSub, reduceIte, reduceCtorEq, Nat.reduceBEq, reduceLT]) | (with_reducible refine onI_bare ?_ ?_; focus (simp only [InR]; omega)) | ((first | apply execG_split | apply execC_split | apply onPick_split) <;> intro h <;> try simp only [h]))
        refine ⟨v.length + 1, ?_, ⟨by omega, by omega⟩, by omega⟩
        rw [if_neg (by omega), ← hf]
        exact (weak_of _ rfl ⟨⟨rfl, rfl⟩, ⟨rfl, rfl⟩, ⟨rfl, rfl⟩, ⟨rfl, rfl⟩, trivial⟩)
      | succ k =>
        obtain ⟨x, hx⟩ := get_lt (show k < v.length by omega)
        have hne := hnp hx
        have h1 : decide (0 < ((k + 1 : Nat) : Int)) = true := decide_eq_true (by omega)
        have hn1 : (((k + 1 : Nat) : Int) - 1).toNat = k := by omega
        have h0 : (0 : Int) ≤ ((k + 1 : Nat) : Int) := by omega
        have h0' : (0 : Int) ≤ ((k + 1 : Nat) : Int) - 1 := by omega
        have hg1 := mv_at (p := p) hj
        have hg2 := mv_bf (p := p) hx
        have hml := mv_len (p := p) hj
        have hs1 : ((dl iD (mv p v (k + 1))).setN (k + 1) (.int .i64 x)) = dl iD ((mv p v (k + 1)).set (k + 1) x) := dl_setN (f := iD) _ _ x
        have hs2 : ((dl iD ((mv p v (k + 1)).set (k + 1) x)).setN k (.int .i64 p)) = dl iD (mv p v k) := (dl_setN (f := iD) _ _ p).trans (by rw [mv_swap hx])
        have hg3 : ((mv p v (k + 1)).set (k + 1) x)[k]? = some x := by rw [List.getElem?_set_ne (by omega)]; exact hg2
        cases hc : decide (p < x) with
        | false =>
          have hf := hput (k + 1) hj (fun m z hm hz => by
            have hc' := of_decide_eq_false hc
            by_cases e : m = k
            · subst e
              rw [hx] at hz
              injection hz with hz
              omega
            · have := risen_lt hr k m z x (by omega) hz hx
              omega) hjx
          repeat' (first | (simp only [dl_len, rd_iD, hml, h1, hc, hn1, h0, h0', dl_nth, hg1, hg2, Option.map_some, onC_true, Int.toNat_natCast, dget_int, doff_int, size_int, ↓wA, ↓wC, wB, frzBE, frzBS, reduceEqDiff, reduceAdd, reduceSub, reduceIte, reduceCtorEq, Nat.reduceBEq, reduceLT]) | (refine callP_det (cmpLess_fn _ _) rfl rfl ?_) | (with_reducible refine onI_bare ?_ ?_; focus (simp only [InR]; omega)) | ((first | apply execG_split | apply execC_split | apply onPick_split) <;> intro h <;> try simp only [h]))
          refine ⟨v.length + 1, ?_, ⟨by omega, by omega⟩, by omega⟩
          rw [if_neg (by omega), ← hf]
          exact (weak_of _ rfl ⟨⟨rfl, rfl⟩, ⟨rfl, rfl⟩, ⟨rfl, rfl⟩, ⟨rfl, rfl⟩, trivial⟩)
        | true =>
          repeat' (first | (simp only [dl_len, rd_iD, hml, h1, hc, hn1, h0, h0', dl_nth, hg1, hg2, hg3, hs1, hs2, setN_len, List.length_set, Option.map_some, onC_true, Int.toNat_natCast, dget_int, doff_int, size_int, ↓wA, ↓wC, wB, frzBE, frzBS, reduceEqDiff, reduceAdd, reduceSub, reduceIte, reduceCtorEq, Nat.reduceBEq, reduceLT]) | (refine callP_det (cmpLess_fn _ _) rfl rfl ?_) | (refine onJ_q ?_) | (with_reducible refine onI_bare ?_ ?_; focus (simp only [InR]; omega)) | ((first | apply execG_split | apply execC_split | apply onPick_split) <;> intro h <;> try simp only [h]))
          rw [show ((k + 1 : Nat) : Int) - 1 = (k : Int) by omega]
          refine ⟨k, (weak_of _ rfl ⟨⟨rfl, rfl⟩, ⟨rfl, rfl⟩, ⟨rfl, rfl⟩, ⟨rfl, rfl⟩, ⟨rfl, rfl⟩, trivial⟩), ⟨by omega, fun z hz => ?_⟩, by omega⟩
          rw [hx] at hz
          injection hz with hz
          have := of_decide_eq_true hc
          omega
theorem bitsLen_fn (n : Nat) (h : n ≤ 7) : Fn prog 249 [.int .u64 n] (fun rs => rs = [.int .i64 (lenTab n)]) := by
  have h1 := len64_fn n h
  refine Fn_of' (fn := f249) (by exact func249) c249 r249 (n := 8) (by rfl) (rv := [.tmp 2]) (by rfl) (by simp) ?_
  unfold m249
  try simp only [wQ]
  repeat' (first | (simp only [↓wA, ↓wC, wB, frzBE, frzBS, reduceEqDiff, reduceAdd, reduceSub, reduceIte, reduceCtorEq, Nat.reduceBEq, reduceLT]) | (refine call_det (h1) rfl rfl ?_) | (refine callP_det (h1) rfl rfl ?_) | ((first | apply execG_split | apply execC_split | apply onPick_split) <;> intro h <;> try simp only [h]))
theorem pdq_fn (p : Int) (v : List Int) (m : Int) (hr : risen v) (hp : p ∉ v) (hlen : v.length ≤ 6) : FnM prog 248 false (.sl true 1 (dl iD (v ++ [p]))) [.int .i64 0, .int .i64 (v.length + 1), .int .i64 m] (fun x' rs => x' = .sl true 1 (dl iD (putI p v)) ∧ rs = []) := by
  have hI := insSort_fn p v hr hp hlen
  have h12 : decide ((v.length : Int) + 1 - 0 ≤ 12) = true := decide_eq_true (by omega)
  refine FnM_of' (fn := f248) (by exact func248) c248 r248 (n := 134) (by rfl) (rv := []) (by rfl) (by decide) (by simp) ?_
  unfold m248
  try simp only [wQ]
  simp only [↓wA, ↓wC, wB, frzBE, frzBS, reduceEqDiff, reduceAdd, reduceSub, reduceIte, reduceCtorEq, Nat.reduceBEq, reduceLT]
  refine exec_loop (fun _ : Unit => ⟨[(0, .own 0), (1, .d (.int .i64 0)), (2, .d (.int .i64 (v.length + 1))), (3, .d (.int .i64 m)), (8, .d (.bool true)), (9, .d (.bool true))], [.val (.sl true 1 (dl iD (v ++ [p])))]⟩) (fun _ => True) (fun _ => 0) () (weak_of _ rfl ⟨⟨rfl, rfl⟩, ⟨rfl, rfl⟩, ⟨rfl, rfl⟩, ⟨rfl, rfl⟩, ⟨rfl, rfl⟩, ⟨rfl, rfl⟩, trivial⟩) trivial ?_
  rintro _ _
  repeat' (first | (simp only [h12, ↓wA, ↓wC, wB, frzBE, frzBS, reduceEqDiff, reduceAdd, reduceSub, reduceIte, reduceCtorEq, Nat.reduceBEq, reduceLT]) | (refine callM_det hI rfl rfl rfl ?_) | (with_reducible refine onI_bare ?_ ?_; focus (simp only [InR]; omega)) | ((first | apply execG_split | apply execC_split | apply onPick_split) <;> intro h <;> try simp only [h]))
theorem sort_fn (p : Int) (v : List Int) (hr : risen v) (hp : p ∉ v) (hlen : v.length ≤ 6) : FnM prog 221 false (.sl true 1 (dl iD (v ++ [p]))) [] (fun x' rs => x' = .sl true 1 (dl iD (putI p v)) ∧ rs = []) := by
  have hl : ((v.length + 1 : Nat) : Int) = (v.length : Int) + 1 := by omega
  have hl2 : (v ++ [p]).length = v.length + 1 := by simp
  have hB : Fn prog 249 [.int .u64 ((v.length : Int) + 1)] (fun rs => rs = [.int .i64 (lenTab (v.length + 1))]) := bitsLen_fn (v.length + 1) (by omega)
  have hP := pdq_fn p v (lenTab (v.length + 1)) hr hp hlen
  have hU : InR .u64 ((v.length : Int) + 1) := by
    have h8 : v.length = 0 ∨ v.length = 1 ∨ v.length = 2 ∨ v.length = 3 ∨ v.length = 4 ∨ v.length = 5 ∨ v.length = 6 := by omega
    rcases h8 with h | h | h | h | h | h | h
    all_goals
      rw [h]
      show IntKind.wrap .u64 _ = _
      decide
  refine FnM_of' (fn := f221) (by exact func221) c221 r221 (n := 11) (by rfl) (rv := []) (by rfl) (by decide) (by simp) ?_
  unfold m221
  try simp only [wQ]
  repeat' (first | (simp only [dl_len, hl2, hl, ↓wA, ↓wC, wB, frzBE, frzBS, reduceEqDiff, reduceAdd, reduceSub, reduceIte, reduceCtorEq, Nat.reduceBEq, reduceLT]) | (refine call_det (hB) rfl rfl ?_) | (refine callP_det (hB) rfl rfl ?_) | (refine onI_bare hU ?_) | (refine callM_det hP rfl rfl rfl ?_) | (with_reducible refine onI_bare ?_ ?_; focus (simp only [InR]; omega)) | ((first | apply execG_split | apply execC_split | apply onPick_split) <;> intro h <;> try simp only [h]))
end Go.Pe.Tryz
set_option maxRecDepth 100000
set_option maxHeartbeats 4000000
set_option linter.all false
namespace Go.Pe.Tryz
open Nat (reduceEqDiff reduceAdd reduceSub reduceLT)
def placeC (id : Int) : List Cs → Nat
  | [] => 0
  | x :: xs => if x.i < id then placeC id xs + 1 else 0
theorem placeC_eq {id : Int} : ∀ (xs : List Cs) (j : Nat), j ≤ xs.length → (∀ m x, m < j → xs[m]? = some x → x.i < id) → (∀ x, xs[j]? = some x → ¬ x.i < id) → placeC id xs = j
  | [], j, h, _, _ => by
    simp at h
    subst h
    rfl
  | a :: t, 0, _, _, h3 => by
    rw [placeC, if_neg (h3 a rfl)]
  | a :: t, j + 1, h, h2, h3 => by
    rw [placeC, if_pos (h2 0 a (by omega) rfl), placeC_eq t j (by simpa using h) (fun m x hm hx => h2 (m + 1) x (by omega) (by simpa using hx)) (fun x hx => h3 x (by simpa using hx))]
def enterC (x : Cs) (xs : List Cs) : List Cs := xs.take (placeC x.i xs) ++ x :: xs.drop (placeC x.i xs)
def relC (v : Int) (x : Cs) : Cs := { x with h := x.h.filter fun n => !decide (n = v) }
def entryT (id day : Int) : List UInt8 := 114 :: (Lib.itoa id ++ 32 :: 100 :: Lib.itoa day)
def outO (o : Off) (i : Nat) (x : Cs) : Off :=
  if x.a = 1 then { o with cs := o.cs.eraseIdx i, kept := o.kept + 1 }
  else if x.a = 2 then { o with cs := o.cs.eraseIdx i, moved := o.moved + 1 }
  else { o with cs := o.cs.eraseIdx i, led := o.led ++ [entryT x.i o.day] }
def dealB (o : Off) (x : Cs) : Bool := decide (x.d ≤ o.day) && (decide (x.a = 1) || decide (x.a = 2) || decide (x.h.length = 0))
def hasC (v : Int) (xs : List Cs) : Bool := xs.any fun x => x.h.contains v
def mkO (o : Off) (k id a v : Int) : Option Off :=
  if k = 2 then (if 0 ≤ findC o.cs id then none else some { o with cs := enterC ⟨id, a, o.day + v, []⟩ o.cs })
  else if a ≠ 0 then none
  else if k = 1 then (if id = 0 ∧ 1 ≤ v then some { o with day := o.day + v } else none)
  else if k = 4 then (if id = 0 ∧ hasC v o.cs = true then some { o with cs := o.cs.map (relC v) } else none)
  else if 0 ≤ findC o.cs id then
    (match o.cs[(findC o.cs id).toNat]? with
    | some x => if k = 3 then (if x.h.contains v = true then none else some { o with cs := o.cs.set (findC o.cs id).toNat { x with h := putI v x.h } })
      else if k = 5 then (if 1 ≤ v then some { o with cs := o.cs.set (findC o.cs id).toNat { x with d := x.d + v } } else none)
      else if k = 6 then (if v = 0 ∧ dealB o x = true then some (outO o (findC o.cs id).toNat x) else none)
      else none
    | none => none)
  else none
def stepR (o : Off) (k id a v : Int) : Option Off := if (offOK o && within v 0 20000) = true then (mkO o k id a v).filter offOK else none
def stepB (o : Off) (k id a v : Int) : Bool :=
  if k = 1 then decide (id = 0) && decide (a = 0) && decide (1 ≤ v)
  else if k = 2 then within id 1 999 && decide (findC o.cs id < 0) && within a 1 3 && decide (0 ≤ v)
  else if k = 3 then decide (0 ≤ findC o.cs id) && decide (a = 0) && within v 1 9
  else if k = 4 then decide (id = 0) && decide (a = 0) && within v 1 9
  else if k = 5 then decide (0 ≤ findC o.cs id) && decide (a = 0) && decide (1 ≤ v)
  else decide (k = 6) && decide (0 ≤ findC o.cs id) && decide (a = 0) && decide (v = 0)
def makeO (o : Off) (k id a v : Int) : Option Off :=
  if k = 1 then (if v > 20000 - o.day then none else some { o with day := o.day + v })
  else if k = 2 then (if v > 20000 - o.day then none else some { o with cs := enterC ⟨id, a, o.day + v, []⟩ o.cs })
  else if k = 4 then (if hasC v o.cs = true then some { o with cs := o.cs.map (relC v) } else none)
  else match o.cs[(findC o.cs id).toNat]? with
    | some x => if k = 3 then (if x.h.contains v = true then none else some { o with cs := o.cs.set (findC o.cs id).toNat { x with h := putI v x.h } })
      else if k = 5 then (if v > 20000 - x.d then none else some { o with cs := o.cs.set (findC o.cs id).toNat { x with d := x.d + v } })
      else if dealB o x = true then some (outO o (findC o.cs id).toNat x) else none
    | none => none
def makeR (o : Off) (k id a v : Int) : Option Off := (makeO o k id a v).filter offOK
def specR (o : Off) (k id a v : Int) : Option Off := if (offOK o && stepB o k id a v) = true then makeR o k id a v else none
theorem off_parts {o : Off} (h : offOK o = true) : 0 ≤ o.day ∧ o.day ≤ 20000 ∧ o.cs.length ≤ 6 ∧ 0 ≤ o.kept ∧ o.kept ≤ 999 ∧ 0 ≤ o.moved ∧ o.moved ≤ 999 ∧ o.led.length ≤ 8 ∧ (∀ s ∈ o.led, s.length ≤ 40) ∧ (∀ x ∈ o.cs, caseOK x = true) := by
  have hc : ∀ x ∈ o.cs, caseOK x = true := fun x hx => by
    obtain ⟨i, hi⟩ := List.getElem?_of_mem hx
    exact offOK_case h hi
  simp only [offOK, headOK, Bool.and_eq_true, within, decide_eq_true_eq] at h
  obtain ⟨⟨⟨⟨⟨h1, h2⟩, h3⟩, h4⟩, h5⟩, _⟩ := h
  have hl : o.led.length ≤ 8 ∧ ∀ s ∈ o.led, s.length ≤ 40 := by
    simp only [ledOK, Bool.or_eq_true, Bool.not_eq_true', decide_eq_false_iff_not, ledgerOK, Bool.and_eq_true, within, decide_eq_true_eq, List.all_eq_true, entryOK] at h5
    rcases h5 with h5 | ⟨h5, h6⟩
    · have : o.led = [] := List.length_eq_zero_iff.1 (by omega)
      rw [this]; simp
    · exact ⟨by omega, fun s hs => by have := (h6 s hs).1; omega⟩
  exact ⟨h1.1, h1.2, by omega, h3.1, h3.2, h4.1, h4.2, hl.1, hl.2, hc⟩
theorem case_parts {x : Cs} (h : caseOK x = true) : 1 ≤ x.i ∧ x.i ≤ 999 ∧ 1 ≤ x.a ∧ x.a ≤ 3 ∧ 0 ≤ x.d ∧ x.d ≤ 20000 ∧ x.h.length ≤ 5 ∧ (∀ n ∈ x.h, 1 ≤ n ∧ n ≤ 9) ∧ rises x.h = true := by
  simp only [caseOK, Bool.and_eq_true, within, decide_eq_true_eq, List.all_eq_true] at h
  obtain ⟨⟨⟨⟨h1, h2⟩, h3⟩, h4⟩, h5, h6⟩ := h
  exact ⟨h1.1, h1.2, h2.1, h2.2, h3.1, h3.2, by omega, h5, h6⟩
theorem off_bad {o : Off} {x : Cs} (hx : x ∈ o.cs) (h : caseOK x = false) : offOK o = false := by
  cases hh : offOK o with
  | false => rfl
  | true =>
    have := (off_parts hh).2.2.2.2.2.2.2.2.2 x hx
    rw [h] at this; cases this
theorem off_ok0 {o : Off} (h : offOK o = true) : o.ok0 := by
  obtain ⟨_, _, h3, _, _, _, _, h8, h9, h10⟩ := off_parts h
  refine ⟨⟨by omega, fun x hx => ?_⟩, by omega, fun s hs => by have := h9 s hs; omega⟩
  have := (case_parts (h10 x hx)).2.2.2.2.2.2.1
  unfold Cs.ok0; omega
theorem day_bad {o : Off} (h : o.day < 0 ∨ 20000 < o.day) : offOK o = false := by
  cases hh : offOK o with
  | false => rfl
  | true =>
    have := off_parts hh
    omega
theorem mem_put (v : Int) (h : List Int) : v ∈ putI v h := by simp [putI]
theorem mem_enter (x : Cs) (xs : List Cs) : x ∈ enterC x xs := by simp [enterC]
theorem mem_set {α : Type} {xs : List α} {i : Nat} {x y : α} (h : xs[i]? = some x) : y ∈ xs.set i y := by
  have := lt_of_get h
  exact List.mem_of_getElem? (i := i) (by rw [List.getElem?_set]; simp [this])
theorem filter_none {o : Off} (h : offOK o = false) : (some o).filter offOK = none := by
  simp [Option.filter, h]
theorem case_bad_d {x : Cs} (h : x.d < 0 ∨ 20000 < x.d) : caseOK x = false := by
  cases hh : caseOK x with
  | false => rfl
  | true => have := case_parts hh; omega
theorem case_bad_i {x : Cs} (h : x.i < 1 ∨ 999 < x.i) : caseOK x = false := by
  cases hh : caseOK x with
  | false => rfl
  | true => have := case_parts hh; omega
theorem case_bad_a {x : Cs} (h : x.a < 1 ∨ 3 < x.a) : caseOK x = false := by
  cases hh : caseOK x with
  | false => rfl
  | true => have := case_parts hh; omega
theorem case_bad_h {x : Cs} {v : Int} (hv : v ∈ x.h) (h : v < 1 ∨ 9 < v) : caseOK x = false := by
  cases hh : caseOK x with
  | false => rfl
  | true => have := (case_parts hh).2.2.2.2.2.2.2.1 v hv; omega
theorem no_hold {o : Off} {v : Int} (h : offOK o = true) (hv : v < 1 ∨ 9 < v) : hasC v o.cs = false := by
  cases hh : hasC v o.cs with
  | false => rfl
  | true =>
    obtain ⟨x, hx, hc⟩ := List.any_eq_true.1 hh
    have := (case_parts ((off_parts h).2.2.2.2.2.2.2.2.2 x hx)).2.2.2.2.2.2.2.1 v (List.contains_iff_mem.1 hc)
    omega
theorem within_true {n a b : Int} (h1 : a ≤ n) (h2 : n ≤ b) : within n a b = true := by simp [within, h1, h2]
theorem specR_eq (o : Off) (k id a v : Int) : specR o k id a v = stepR o k id a v := by
  unfold specR stepR
  cases ho : offOK o with
  | false => simp
  | true =>
    have hp := off_parts ho
    simp only [Bool.true_and]
    unfold makeR makeO mkO stepB
    by_cases k1 : k = 1
    · subst k1
      simp only [if_true, show ¬ (1 : Int) = 2 by decide, if_false]
      by_cases ha : a = 0
      · by_cases hi : id = 0 ∧ 1 ≤ v
        · have e1 : (decide (id = 0) && decide (a = 0) && decide (1 ≤ v)) = true := by simp [hi.1, ha, hi.2]
          rw [if_pos e1, if_neg (show ¬ a ≠ 0 from fun h => h ha), if_pos hi]
          by_cases hv : v > 20000 - o.day
          · rw [if_pos hv]
            split
            · rw [filter_none (day_bad (.inr (by simp only; omega)))]; rfl
            · rfl
          · rw [if_neg hv, if_pos (within_true (by omega) (by omega))]
        · have e1 : ¬ (decide (id = 0) && decide (a = 0) && decide (1 ≤ v)) = true := by
            simp only [Bool.and_eq_true, decide_eq_true_eq]
            intro h; exact hi ⟨h.1.1, h.2⟩
          rw [if_neg e1, if_neg (show ¬ a ≠ 0 from fun h => h ha), if_neg hi]
          simp
      · have e1 : ¬ (decide (id = 0) && decide (a = 0) && decide (1 ≤ v)) = true := by simp [ha]
        rw [if_neg e1, if_pos ha]
        simp
    · by_cases k2 : k = 2
      · subst k2
        simp only [if_true, show ¬ (2 : Int) = 1 by decide, if_false]
        by_cases hf : 0 ≤ findC o.cs id
        · rw [if_pos hf, if_neg (by simp only [Bool.and_eq_true, decide_eq_true_eq]; omega)]
          simp
        · rw [if_neg hf]
          have hm := mem_enter ⟨id, a, o.day + v, []⟩ o.cs
          by_cases hs : (within id 1 999 && decide (findC o.cs id < 0) && within a 1 3 && decide (0 ≤ v)) = true
          · rw [if_pos hs]
            simp only [Bool.and_eq_true, decide_eq_true_eq] at hs
            by_cases hv : v > 20000 - o.day
            · rw [if_pos hv]
              split
              · rw [filter_none (off_bad hm (case_bad_d (.inr (by simp only; omega))))]; rfl
              · rfl
            · rw [if_neg hv, if_pos (within_true (by omega) (by omega))]
          · rw [if_neg hs]
            split
            · rename_i hw
              have hw := within_iff.1 hw
              rw [filter_none]
              simp only [Bool.and_eq_true, decide_eq_true_eq, within_iff] at hs
              by_cases q1 : 1 ≤ id ∧ id ≤ 999
              · exact off_bad hm (case_bad_a (by simp only; omega))
              · exact off_bad hm (case_bad_i (by simp only; omega))
            · rfl
      · rw [if_neg k1, if_neg k1, if_neg k2, if_neg k2, if_neg k2, if_neg k1]
        by_cases ha : a = 0
        case neg =>
          rw [if_pos ha, if_neg]
          · simp
          · split
            · simp [ha]
            · split
              · simp [ha]
              · split <;> simp [ha]
        rw [if_neg (show ¬ a ≠ 0 from fun h => h ha)]
        by_cases k4 : k = 4
        · subst k4
          simp only [if_true, show ¬ (4 : Int) = 3 by decide, if_false]
          by_cases hi : id = 0
          · by_cases hv : 1 ≤ v ∧ v ≤ 9
            · have e1 : (decide (id = 0) && decide (a = 0) && within v 1 9) = true := by
                simp only [Bool.and_eq_true, decide_eq_true_eq, within_iff]; exact ⟨⟨hi, ha⟩, hv⟩
              rw [if_pos e1, if_pos (within_true (by omega) (by omega))]
              cases hh : hasC v o.cs with
              | true => rw [if_pos rfl, if_pos ⟨hi, rfl⟩]
              | false => rw [if_neg (by decide), if_neg (show ¬ (id = 0 ∧ false = true) from fun h => by cases h.2)]
            · have e1 : ¬ (decide (id = 0) && decide (a = 0) && within v 1 9) = true := by
                simp only [Bool.and_eq_true, decide_eq_true_eq, within_iff]; exact fun h => hv h.2
              rw [if_neg e1, no_hold ho (by omega), if_neg (show ¬ (id = 0 ∧ false = true) from fun h => by cases h.2)]
              simp
          · have e1 : ¬ (decide (id = 0) && decide (a = 0) && within v 1 9) = true := by simp [hi]
            rw [if_neg e1, if_neg (show ¬ (id = 0 ∧ hasC v o.cs = true) from fun h => hi h.1)]
            simp
        · rw [if_neg k4, if_neg k4, if_neg k4]
          by_cases hf : 0 ≤ findC o.cs id
          case neg =>
            rw [if_neg hf, if_neg]
            · simp
            · split
              · simp [hf]
              · split <;> simp [hf]
          rw [if_pos hf]
          rcases find_casesC o.cs id with ⟨_, hn⟩ | ⟨i, x, hi, hr, _⟩
          · exact absurd hf (of_decide_eq_false hn)
          have hxc := case_parts (hp.2.2.2.2.2.2.2.2.2 x (List.mem_of_getElem? hr))
          rw [hi, Int.toNat_natCast, hr]
          simp only
          have hi0 : (0 : Int) ≤ (i : Int) := by omega
          by_cases k3 : k = 3
          · subst k3
            simp only [if_true]
            by_cases hv : 1 ≤ v ∧ v ≤ 9
            · have e1 : (decide (0 ≤ (i : Int)) && decide (a = 0) && within v 1 9) = true := by
                simp only [Bool.and_eq_true, decide_eq_true_eq, within_iff]; exact ⟨⟨hi0, ha⟩, hv⟩
              rw [if_pos e1, if_pos (within_true (by omega) (by omega))]
            · have e1 : ¬ (decide (0 ≤ (i : Int)) && decide (a = 0) && within v 1 9) = true := by
                simp only [Bool.and_eq_true, decide_eq_true_eq, within_iff]; exact fun h => hv h.2
              rw [if_neg e1]
              split
              · split
                · rfl
                · rw [filter_none (off_bad (x := { x with h := putI v x.h }) (mem_set hr) (case_bad_h (mem_put v x.h) (by omega)))]
              · rfl
          · rw [if_neg k3, if_neg k3, if_neg k3]
            by_cases k5 : k = 5
            · subst k5
              simp only [if_true]
              by_cases hv : 1 ≤ v
              · have e1 : (decide (0 ≤ (i : Int)) && decide (a = 0) && decide (1 ≤ v)) = true := by
                  simp only [Bool.and_eq_true, decide_eq_true_eq]; exact ⟨⟨hi0, ha⟩, hv⟩
                rw [if_pos e1, if_pos hv]
                by_cases hv2 : v > 20000 - x.d
                · rw [if_pos hv2]
                  split
                  · rw [filter_none (off_bad (x := { x with d := x.d + v }) (mem_set hr) (case_bad_d (.inr (by simp only; omega))))]; rfl
                  · rfl
                · rw [if_neg hv2, if_pos (within_true (by omega) (by omega))]
              · have e1 : ¬ (decide (0 ≤ (i : Int)) && decide (a = 0) && decide (1 ≤ v)) = true := by
                  simp only [Bool.and_eq_true, decide_eq_true_eq]; exact fun h => hv h.2
                rw [if_neg e1, if_neg hv]
                simp
            · rw [if_neg k5, if_neg k5, if_neg k5]
              by_cases k6 : k = 6
              · rw [if_pos k6]
                by_cases hv : v = 0
                · have e1 : (decide (k = 6) && decide (0 ≤ (i : Int)) && decide (a = 0) && decide (v = 0)) = true := by
                    simp only [Bool.and_eq_true, decide_eq_true_eq]; exact ⟨⟨⟨k6, hi0⟩, ha⟩, hv⟩
                  rw [if_pos e1, if_pos (within_true (by omega) (by omega))]
                  cases hd : dealB o x with
                  | true => rw [if_pos rfl, if_pos ⟨hv, rfl⟩]
                  | false => rw [if_neg (by decide), if_neg (show ¬ (v = 0 ∧ false = true) from fun h => by cases h.2)]
                · have e1 : ¬ (decide (k = 6) && decide (0 ≤ (i : Int)) && decide (a = 0) && decide (v = 0)) = true := by
                    simp only [Bool.and_eq_true, decide_eq_true_eq]; exact fun h => hv h.2
                  rw [if_neg e1, if_neg (show ¬ (v = 0 ∧ dealB o x = true) from fun h => hv h.1)]
                  simp
              · have e1 : ¬ (decide (k = 6) && decide (0 ≤ (i : Int)) && decide (a = 0) && decide (v = 0)) = true := by
                  simp only [Bool.and_eq_true, decide_eq_true_eq]; exact fun h => k6 h.1.1.1
                rw [if_neg e1, if_neg k6]
                simp
end Go.Pe.Tryz
set_option maxRecDepth 100000
set_option maxHeartbeats 4000000
set_option linter.all false
namespace Go.Pe.Tryz
open Nat (reduceEqDiff reduceAdd reduceSub reduceLT)
open Go.Proofs.Tryz
theorem cloneC_fn (xs : List Cs) (hlen : xs.length ≤ 1048576) : Fn prog 170 [.sl false 4 (dl Cs.s xs)] (fun rs => rs = [.sl true 4 (dl Cs.s xs)]) := by
  refine Fn_of' (fn := f170) (by exact func170) c170 r170 (n := 8) (by rfl) (rv := [.tmp 2]) (by rfl) (by simp) ?_
  unfold m170
  try simp only [wQ]
  simp only [↓wA, ↓wC, wB, frzBE, frzBS, reduceEqDiff, reduceAdd, reduceSub, reduceIte, reduceCtorEq, Nat.reduceBEq, reduceLT, sz35]
  refine nilQ_i (fun h => ?_) ?_
  · rw [dl_len] at h
    have e : xs = [] := List.length_eq_zero_iff.1 h
    subst e
    simp only [↓wA, ↓wC, wB, frzBE, frzBS, reduceEqDiff, reduceAdd, reduceSub, reduceIte, reduceCtorEq, Nat.reduceBEq, reduceLT, sz35]
    refine take_nil 4 ?_
    rfl
  · simp only [dl_len, ↓wA, ↓wC, wB, frzBE, frzBS, reduceEqDiff, reduceAdd, reduceSub, reduceIte, reduceCtorEq, Nat.reduceBEq, reduceLT, sz35]
    refine onC_i ⟨by omega, by omega⟩ ?_
    simp only [↓wA, ↓wC, wB, frzBE, frzBS, reduceEqDiff, reduceAdd, reduceSub, reduceIte, reduceCtorEq, Nat.reduceBEq, reduceLT, sz35]
theorem cloneT_fn (L : List (List UInt8)) (hlen : L.length ≤ 1048576) : Fn prog 172 [.sl false 1 (dl D.str L)] (fun rs => rs = [.sl true 1 (dl D.str L)]) := by
  refine Fn_of' (fn := f172) (by exact func172) c172 r172 (n := 8) (by rfl) (rv := [.tmp 2]) (by rfl) (by simp) ?_
  unfold m172
  try simp only [wQ]
  simp only [↓wA, ↓wC, wB, frzBE, frzBS, reduceEqDiff, reduceAdd, reduceSub, reduceIte, reduceCtorEq, Nat.reduceBEq, reduceLT, sz35]
  refine nilQ_i (fun h => ?_) ?_
  · rw [dl_len] at h
    have e : L = [] := List.length_eq_zero_iff.1 h
    subst e
    simp only [↓wA, ↓wC, wB, frzBE, frzBS, reduceEqDiff, reduceAdd, reduceSub, reduceIte, reduceCtorEq, Nat.reduceBEq, reduceLT, sz35]
    refine take_nil 1 ?_
    rfl
  · simp only [dl_len, ↓wA, ↓wC, wB, frzBE, frzBS, reduceEqDiff, reduceAdd, reduceSub, reduceIte, reduceCtorEq, Nat.reduceBEq, reduceLT, sz35]
    refine onC_i ⟨by omega, by omega⟩ ?_
    simp only [↓wA, ↓wC, wB, frzBE, frzBS, reduceEqDiff, reduceAdd, reduceSub, reduceIte, reduceCtorEq, Nat.reduceBEq, reduceLT, sz35]
def cm (p : Bool × Cs) : D := if p.1 then p.2.o else p.2.s
def mixC (xs : List Cs) (i : Nat) : List (Bool × Cs) := (xs.take i).map (fun x => (true, x)) ++ (xs.drop i).map (fun x => (false, x))
theorem mixC_len (xs : List Cs) (i : Nat) : (mixC xs i).length = xs.length := by simp [mixC]; omega
theorem mixC_get {xs : List Cs} {i : Nat} {x : Cs} (hr : xs[i]? = some x) : (mixC xs i)[i]? = some (false, x) := by
  have hi := lt_of_get hr
  rw [mixC, List.getElem?_append_right (by simp; omega), List.length_map, List.length_take, Nat.min_eq_left (by omega), Nat.sub_self, List.getElem?_map, List.getElem?_drop]
  simp [hr]
theorem mixC_set {xs : List Cs} {i : Nat} {x : Cs} (hr : xs[i]? = some x) : (mixC xs i).set i (true, x) = mixC xs (i + 1) := by
  have hi := lt_of_get hr
  rw [mixC, List.set_append_right _ _ (by simp; omega), List.length_map, List.length_take, Nat.min_eq_left (by omega), Nat.sub_self, cdrop_get hr, List.map_cons, List.set_cons_zero, mixC, take_get hr]
  simp
theorem mixC_0 (xs : List Cs) : dl cm (mixC xs 0) = dl Cs.s xs := by
  simp only [mixC, List.take_zero, List.map_nil, List.nil_append, List.drop_zero, dl, List.map_map]
  rfl
theorem mixC_n (xs : List Cs) : dl cm (mixC xs xs.length) = dl Cs.o xs := by
  simp only [mixC, List.take_length, List.drop_length, List.map_nil, List.append_nil, dl, List.map_map]
  rfl
theorem copyOffice_fn (o : Off) (ho : o.ok0) : Fn prog 109 [o.s] (fun rs => rs = [o.o]) := by
  have hC := cloneC_fn o.cs ho.1.1
  have hT := cloneT_fn o.led ho.2.1
  have hlen := ho.1.1
  refine Fn_ofg (ps := [[1, 1, 0, 0], [1, 1, 1, 0]]) (fn := f109) (by exact func109) c109 r109 (n := 32) (by rfl) (rv := [.cell 2 35]) (by rfl) (by simp) ?_
  unfold m109
  try simp only [wQ]
  simp only [ghAll, ghAt]
  simp only [Off.s, offP]
  repeat' (first | (simp only [css_noOwn, strs_noOwn, onC_true, ↓wA, ↓wC, wB, frzBE, frzBS, reduceEqDiff, reduceAdd, reduceSub, reduceIte, reduceCtorEq, Nat.reduceBEq, reduceLT, sz35]) | (refine call_det hC rfl rfl ?_) | ((first | apply execG_split | apply execC_split | apply onPick_split) <;> intro h <;> try simp only [h]))
  refine exec_gh _ (unlink 0 none [1] (es := 4) (xs := dl Cs.s o.cs) rfl rfl) fun v1 => ?_
  simp only [obSet, css_noOwn, strs_noOwn, onC_true, dl_len, ↓wA, ↓wC, wB, frzBE, frzBS, reduceEqDiff, reduceAdd, reduceSub, reduceIte, reduceCtorEq, Nat.reduceBEq, reduceLT, sz35]
  refine exec_range o.cs.length (fun i : Nat => ⟨[(1, .ptr 0 0 []), (2, .ptr 1 0 []), (10, .d (.int .i64 o.cs.length)), (11, .d (.int .i64 i))], [.box (offP o (.lnk 4 v1) (.sl false 1 (dl D.str o.led))), .box (.st (.cons (.int .i64 0) (.cons (.sl true 4 .nil) (.cons (.int .i64 0) (.cons (.int .i64 0) (.cons (.sl true 1 .nil) .nil)))))), .dead, .val (.sl true 4 (dl cm (mixC o.cs i))), .tag 3 v1]⟩) (fun _ => True) ?_ trivial ?_ ?_
  · rw [mixC_0]; exact (weak_of _ rfl ⟨⟨rfl, rfl⟩, ⟨rfl, rfl⟩, ⟨rfl, rfl⟩, ⟨rfl, rfl⟩, trivial⟩)
  · intro i hlt _ hd h0
    obtain ⟨x, hr⟩ := get_lt hlt
    have h1 := cloneI_fn x.h (ho.1.2 x (List.mem_of_getElem? hr))
    have hg := mixC_get hr
    have hcm : cm (false, x) = x.p (.sl false 1 (dl iD x.h)) := rfl
    have hgs : ∀ (y : D), ((dl cm (mixC o.cs i)).setN i y).nth i = some y := fun y => by rw [setN_nth, if_pos rfl, dl_nth, hg]; rfl
    simp only [offP]
    repeat' (first | (simp only [dl_len, mixC_len, hd, h0, dl_nth, Int.toNat_natCast, hg, hcm, hgs, setN_setN, Option.map_some, onC_true, ints_noOwn, doff_q3, dget_q3, dset_q3, ↓wA, ↓wC, wB, frzBE, frzBS, reduceEqDiff, reduceAdd, reduceSub, reduceIte, reduceCtorEq, Nat.reduceBEq, reduceLT, sz35]) | (refine onJ_q ?_) | (refine call_det h1 rfl rfl ?_) | (refine onI_bare (by simp only [InR]; omega) ?_) | ((first | apply execG_split | apply execC_split | apply onPick_split) <;> intro h <;> try simp only [h]))
    have e : x.p (.sl true 1 (dl iD x.h)) = cm (true, x) := rfl
    rw [e, dl_setN, mixC_set hr]
    exact ⟨i + 1, (weak_of _ rfl ⟨⟨rfl, rfl⟩, ⟨rfl, rfl⟩, ⟨rfl, rfl⟩, ⟨rfl, rfl⟩, trivial⟩), by omega, by omega⟩
  · intro _ hd
    rw [mixC_n]
    simp only [offP]
    repeat' (first | (simp only [dl_len, hd, onC_true, ↓wA, ↓wC, wB, frzBE, frzBS, reduceEqDiff, reduceAdd, reduceSub, reduceIte, reduceCtorEq, Nat.reduceBEq, reduceLT, sz35]) | ((first | apply execG_split | apply execC_split | apply onPick_split) <;> intro h <;> try simp only [h]))
    refine exec_gh1 (relink 0 4 3 none [1] rfl rfl rfl rfl (by decide) rfl) ?_
    simp only [obSet, ↓wA, ↓wC, wB, frzBE, frzBS, reduceEqDiff, reduceAdd, reduceSub, reduceIte, reduceCtorEq, Nat.reduceBEq, reduceLT, sz35]
    repeat' (first | (simp only [strs_noOwn, onC_true, ↓wA, ↓wC, wB, frzBE, frzBS, reduceEqDiff, reduceAdd, reduceSub, reduceIte, reduceCtorEq, Nat.reduceBEq, reduceLT, sz35]) | (refine call_det hT rfl rfl ?_) | ((first | apply execG_split | apply execC_split | apply onPick_split) <;> intro h <;> try simp only [h]))
    all_goals exact onC_i rfl rfl
end Go.Pe.Tryz
set_option maxRecDepth 100000
set_option maxHeartbeats 4000000
set_option linter.all false
namespace Go.Pe.Tryz
open Nat (reduceEqDiff reduceAdd reduceSub reduceLT)
open Go.Proofs.Tryz
theorem risenOf {v : List Int} (h : rises v = true) : risen v := fun j a b ha hb => by
  have := (rises_iff v).1 h j (lt_of_get hb)
  rw [List.getD_eq_getElem?_getD, List.getD_eq_getElem?_getD, ha, hb] at this
  simpa using this
theorem risen_nodup {v : List Int} (h : risen v) : v.Nodup := by
  rw [List.Nodup, List.pairwise_iff_getElem]
  intro i j hi hj hij
  have := risen_lt h j i v[i] v[j] hij (List.getElem?_eq_getElem hi) (List.getElem?_eq_getElem hj)
  omega
theorem del_filter {v : Int} : ∀ (h : List Int) (k : Nat), h.Nodup → h[k]? = some v → h.take k ++ h.drop (k + 1) = h.filter (fun n => !decide (n = v))
  | [], k, _, hk => by simp at hk
  | a :: t, 0, hn, hk => by
    simp only [List.getElem?_cons_zero, Option.some.injEq] at hk
    subst hk
    obtain ⟨h1, h2⟩ := List.nodup_cons.1 hn
    have : t.filter (fun n => !decide (n = a)) = t := by
      rw [List.filter_eq_self]
      intro x hx
      have : x ≠ a := fun e => h1 (e ▸ hx)
      simp [this]
    simp [this]
  | a :: t, k + 1, hn, hk => by
    obtain ⟨h1, h2⟩ := List.nodup_cons.1 hn
    simp only [List.getElem?_cons_succ] at hk
    have ha : a ≠ v := fun e => h1 (e ▸ List.mem_of_getElem? hk)
    have ih := del_filter t k h2 hk
    simp only [List.take_succ_cons, List.drop_succ_cons, List.cons_append, ih]
    simp [ha]
theorem noDel {v : Int} {h : List Int} (hn : h.contains v = false) : h.filter (fun n => !decide (n = v)) = h := by
  rw [List.filter_eq_self]
  intro x hx
  have : x ≠ v := fun e => by
    subst e
    rw [List.contains_iff_mem.2 hx] at hn
    cases hn
  simp [this]
theorem idx_has {v : Int} {h : List Int} : decide (0 ≤ idxOf (fun x => decide (v = x)) h) = h.contains v := by
  rw [idxOf_any, any_eq_contains]
def relM (v : Int) (xs : List Cs) (i : Nat) : List Cs := (xs.take i).map (relC v) ++ xs.drop i
theorem relM_len (v : Int) (xs : List Cs) (i : Nat) : (relM v xs i).length = xs.length := by simp [relM]; omega
theorem relM_get {v : Int} {xs : List Cs} {i : Nat} {x : Cs} (hr : xs[i]? = some x) : (relM v xs i)[i]? = some x := by
  have hi := lt_of_get hr
  rw [relM, List.getElem?_append_right (by simp; omega), List.length_map, List.length_take, Nat.min_eq_left (by omega), Nat.sub_self, List.getElem?_drop]
  simpa using hr
theorem relM_set {v : Int} {xs : List Cs} {i : Nat} {x : Cs} (hr : xs[i]? = some x) : (relM v xs i).set i (relC v x) = relM v xs (i + 1) := by
  have hi := lt_of_get hr
  rw [relM, List.set_append_right _ _ (by simp; omega), List.length_map, List.length_take, Nat.min_eq_left (by omega), Nat.sub_self, cdrop_get hr, List.set_cons_zero, relM, take_get hr]
  simp
theorem hasC_snoc {v : Int} {xs : List Cs} {i : Nat} {x : Cs} (hr : xs[i]? = some x) : hasC v (xs.take (i + 1)) = (hasC v (xs.take i) || x.h.contains v) := by
  rw [take_get hr]
  simp [hasC]
theorem release_fn (o : Off) (v : Int) (ho : o.ok0) (hn : ∀ x ∈ o.cs, x.h.Nodup) : FnM prog 174 true o.o [.int .i64 v] (fun x' rs => x' = Off.o { o with cs := o.cs.map (relC v) } ∧ rs = [.bool (hasC v o.cs)]) := by
  have hlen := ho.1.1
  refine FnM_ofg (ps := [[1, 1, 0, 1, 0, 0, 1, 1, 0, 0, 1, 0], [1, 1, 0, 1, 0, 0, 1, 1, 1], [1, 1, 0, 0], [1, 1, 1, 0]]) (fn := f174) (by exact func174) c174 r174 (n := 49) (by rfl) (rv := [.tmp 4]) (by rfl) (by decide) (by simp) ?_
  unfold m174
  try simp only [wQ]
  simp only [ghAll, ghAt]
  simp only [Off.o, offP]
  repeat' (first | (simp only [onC_true, ↓wA, ↓wC, wB, frzBE, frzBS, reduceEqDiff, reduceAdd, reduceSub, reduceIte, reduceCtorEq, Nat.reduceBEq, reduceLT]) | ((first | apply execG_split | apply execC_split | apply onPick_split) <;> intro h <;> try simp only [h]))
  refine exec_gh _ (unlink 0 none [1] (es := 4) (xs := dl Cs.o o.cs) rfl rfl) fun v1 => ?_
  simp only [obSet, onC_true, dl_len, ↓wA, ↓wC, wB, frzBE, frzBS, reduceEqDiff, reduceAdd, reduceSub, reduceIte, reduceCtorEq, Nat.reduceBEq, reduceLT]
  refine exec_range o.cs.length (fun i : Nat => ⟨[(0, .ptr 0 0 []), (1, .d (.int .i64 v)), (5, .d (.bool (hasC v (o.cs.take i)))), (12, .d (.int .i64 o.cs.length)), (13, .d (.int .i64 i))], [.box (offP o (.lnk 2 v1) (.sl true 1 (dl D.str o.led))), .val (.sl true 4 (dl Cs.o (relM v o.cs i))), .tag 1 v1]⟩) (fun _ => True) ?_ trivial ?_ ?_
  · exact (weak_of _ rfl ⟨⟨rfl, rfl⟩, ⟨rfl, rfl⟩, ⟨rfl, rfl⟩, ⟨rfl, rfl⟩, ⟨rfl, rfl⟩, trivial⟩)
  · intro i hlt _ hd h0
    obtain ⟨x, hr⟩ := get_lt hlt
    have hg := relM_get (v := v) hr
    have hxo := ho.1.2 x (List.mem_of_getElem? hr)
    have hI := indexI_fn x.h v hxo
    have hI' : Fn prog 196 [.sl false 1 (dl iD x.h).unown, .int .i64 v] (fun rs => rs = [.int .i64 (idxOf (fun x => decide (v = x)) x.h)]) := by rw [ints_unown]; exact hI
    have hcm : Cs.o x = x.p (.sl true 1 (dl iD x.h)) := rfl
    have hgs : ∀ (y : D), ((dl Cs.o (relM v o.cs i)).setN i y).nth i = some y := fun y => by rw [setN_nth, if_pos rfl, dl_nth, hg]; rfl
    have hgn : (dl Cs.o (relM v o.cs i)).nth i = some (x.p (.sl true 1 (dl iD x.h))) := by rw [dl_nth, hg]; rfl
    have hx := hasC_snoc (v := v) hr
    have hix := idx_has (v := v) (h := x.h)
    simp only [offP]
    repeat' (first | (simp only [dl_len, relM_len, hd, h0, onC_true, ↓wA, ↓wC, wB, frzBE, frzBS, reduceEqDiff, reduceAdd, reduceSub, reduceIte, reduceCtorEq, Nat.reduceBEq, reduceLT]) | ((first | apply execG_split | apply execC_split | apply onPick_split) <;> intro h <;> try simp only [h]))
    refine exec_gh _ (unlink 1 (some i) [3] (es := 1) (xs := dl iD x.h) rfl (by simp only [obPart, hgn, Option.bind_some, dget_q3])) fun v2 => ?_
    simp only [obSet, hgn, Option.getD_some, dset_q3, ↓wA, ↓wC, wB, frzBE, frzBS, reduceEqDiff, reduceAdd, reduceSub, reduceIte, reduceCtorEq, Nat.reduceBEq, reduceLT]
    by_cases hge : 0 ≤ idxOf (fun x => decide (v = x)) x.h
    · obtain ⟨k, r, hk, hkr, hkp⟩ := idxOf_ge hge
      have hrv : v = r := of_decide_eq_true hkp
      subst hrv
      rw [hk] at hI' hix
      have hc : x.h.contains v = true := by rw [← hix]; exact decide_eq_true (by omega)
      rw [hc] at hix hx
      have hD := deleteI_fn x.h k (k + 1) (by omega) (by have := lt_of_get hkr; omega)
      rw [show ((k + 1 : Nat) : Int) = (k : Int) + 1 by omega] at hD
      have hkl : k ≤ 1048576 := by
        have := lt_of_get hkr
        unfold Cs.ok0 at hxo
        omega
      have hdf := del_filter x.h k (hn x (List.mem_of_getElem? hr)) hkr
      repeat' (first | (simp only [dl_len, relM_len, hd, h0, hix, hgn, hgs, setN_setN, Int.toNat_natCast, Option.map_some, onC_true, doff_q3, dget_q3, dset_q3, ↓wA, ↓wC, wB, frzBE, frzBS, reduceEqDiff, reduceAdd, reduceSub, reduceIte, reduceCtorEq, Nat.reduceBEq, reduceLT]) | (refine call_det (hI') rfl rfl ?_) | (refine callP_det (hI') rfl rfl ?_) | (refine onJ_q ?_) | (with_reducible refine onI_bare ?_ ?_; focus (simp only [InR]; omega)) | ((first | apply execG_split | apply execC_split | apply onPick_split) <;> intro h <;> try simp only [h]))
      refine callM_rel (bx := false) (r := 3) hD rfl rfl rfl ?_
      rintro _ _ ⟨⟨u, rfl⟩, rfl⟩
      repeat' (first | (simp only [dl_len, relM_len, hd, h0, hix, hgn, hgs, setN_setN, Int.toNat_natCast, Option.map_some, onC_true, doff_q3, dget_q3, dset_q3, ↓wA, ↓wC, wB, frzBE, frzBS, reduceEqDiff, reduceAdd, reduceSub, reduceIte, reduceCtorEq, Nat.reduceBEq, reduceLT]) | (with_reducible refine onI_bare ?_ ?_; focus (simp only [InR]; omega)) | ((first | apply execG_split | apply execC_split | apply onPick_split) <;> intro h <;> try simp only [h]))
      refine exec_gh1 (Weak.refl _) ?_
      repeat' (first | (simp only [onC_true, ↓wA, ↓wC, wB, frzBE, frzBS, reduceEqDiff, reduceAdd, reduceSub, reduceIte, reduceCtorEq, Nat.reduceBEq, reduceLT]) | (with_reducible refine onI_bare ?_ ?_; focus (simp only [InR]; omega)) | ((first | apply execG_split | apply execC_split | apply onPick_split) <;> intro h <;> try simp only [h]))
      have e : x.p (.sl true 1 (dl iD (x.h.take k ++ x.h.drop (k + 1)))) = Cs.o (relC v x) := by rw [hdf]; rfl
      rw [e, dl_setN, relM_set hr]
      refine ⟨i + 1, ?_, by omega, by omega⟩
      rw [hx, Bool.or_true]
      exact (weak_of _ rfl ⟨⟨rfl, rfl⟩, ⟨rfl, rfl⟩, ⟨rfl, rfl⟩, ⟨rfl, rfl⟩, ⟨rfl, rfl⟩, trivial⟩)
    · have hm := idxOf_lt hge
      rw [hm] at hI' hix
      have hc : x.h.contains v = false := by rw [← hix]; rfl
      rw [hc] at hix hx
      have hrx : relC v x = x := by
        show ({ x with h := _ } : Cs) = x
        rw [noDel hc]
      repeat' (first | (simp only [dl_len, relM_len, hd, h0, hix, hgn, hgs, setN_setN, Int.toNat_natCast, Option.map_some, onC_true, doff_q3, dget_q3, dset_q3, ↓wA, ↓wC, wB, frzBE, frzBS, reduceEqDiff, reduceAdd, reduceSub, reduceIte, reduceCtorEq, Nat.reduceBEq, reduceLT]) | (refine call_det (hI') rfl rfl ?_) | (refine callP_det (hI') rfl rfl ?_) | (with_reducible refine onI_bare ?_ ?_; focus (simp only [InR]; omega)) | ((first | apply execG_split | apply execC_split | apply onPick_split) <;> intro h <;> try simp only [h]))
      refine exec_gh1 (relink 1 4 3 (some i) [3] rfl (by simp only [obPart, hgs, Option.bind_some, dget_q3]) rfl rfl (by decide) rfl) ?_
      simp only [obSet, hgs, Option.getD_some, dset_q3, setN_setN, ↓wA, ↓wC, wB, frzBE, frzBS, reduceEqDiff, reduceAdd, reduceSub, reduceIte, reduceCtorEq, Nat.reduceBEq, reduceLT]
      repeat' (first | (simp only [onC_true, ↓wA, ↓wC, wB, frzBE, frzBS, reduceEqDiff, reduceAdd, reduceSub, reduceIte, reduceCtorEq, Nat.reduceBEq, reduceLT]) | (with_reducible refine onI_bare ?_ ?_; focus (simp only [InR]; omega)) | ((first | apply execG_split | apply execC_split | apply onPick_split) <;> intro h <;> try simp only [h]))
      have e : x.p (.sl true 1 (dl iD x.h)) = Cs.o (relC v x) := by rw [hrx]; rfl
      rw [e, dl_setN, relM_set hr]
      refine ⟨i + 1, ?_, by omega, by omega⟩
      rw [hx, Bool.or_false]
      exact (weak_of _ rfl ⟨⟨rfl, rfl⟩, ⟨rfl, rfl⟩, ⟨rfl, rfl⟩, ⟨rfl, rfl⟩, ⟨rfl, rfl⟩, trivial⟩)
  · intro _ hd
    have er : relM v o.cs o.cs.length = o.cs.map (relC v) := by simp [relM]
    rw [er, List.take_length]
    simp only [offP]
    repeat' (first | (simp only [dl_len, hd, onC_true, ↓wA, ↓wC, wB, frzBE, frzBS, reduceEqDiff, reduceAdd, reduceSub, reduceIte, reduceCtorEq, Nat.reduceBEq, reduceLT]) | ((first | apply execG_split | apply execC_split | apply onPick_split) <;> intro h <;> try simp only [h]))
    refine exec_gh1 (relink 0 2 1 none [1] rfl rfl rfl rfl (by decide) rfl) ?_
    simp only [obSet, ↓wA, ↓wC, wB, frzBE, frzBS, reduceEqDiff, reduceAdd, reduceSub, reduceIte, reduceCtorEq, Nat.reduceBEq, reduceLT]
    repeat' (first | (simp only [onC_true, ↓wA, ↓wC, wB, frzBE, frzBS, reduceEqDiff, reduceAdd, reduceSub, reduceIte, reduceCtorEq, Nat.reduceBEq, reduceLT]) | ((first | apply execG_split | apply execC_split | apply onPick_split) <;> intro h <;> try simp only [h]))
    all_goals exact ⟨rfl, rfl⟩
end Go.Pe.Tryz
set_option maxRecDepth 100000
set_option maxHeartbeats 4000000
set_option linter.all false
namespace Go.Pe.Tryz
open Nat (reduceEqDiff reduceAdd reduceSub reduceLT)
open Go.Proofs.Tryz
def allT (xs : List Cs) : List (Bool × Cs) := xs.map fun x => (true, x)
theorem dl_allT (xs : List Cs) : dl cm (allT xs) = dl Cs.o xs := by
  simp only [dl, allT, List.map_map]; rfl
theorem allT_get {xs : List Cs} {i : Nat} {x : Cs} (hr : xs[i]? = some x) : (allT xs)[i]? = some (true, x) := by simp [allT, hr]
theorem allT_del {xs : List Cs} {i : Nat} {p : Bool × Cs} (hi : i < xs.length) : (((allT xs).set i p).map cm).take i ++ (((allT xs).set i p).map cm).drop (i + 1) = (xs.eraseIdx i).map Cs.o := by
  rw [← List.map_take, ← List.map_drop, List.take_set_of_le (Nat.le_refl _), List.drop_set_of_lt (by omega), ← List.map_append]
  unfold allT
  rw [← List.map_take, ← List.map_drop, ← List.map_append, List.map_map, List.eraseIdx_eq_take_drop_succ]
  rfl
theorem cm_size (xs : List (Bool × Cs)) : ∀ d ∈ xs.map cm, d.size = 4 := fun d hd => by
  obtain ⟨⟨b, x⟩, _, rfl⟩ := List.mem_map.1 hd
  cases b <;> rfl
theorem app_strT (L : List (List UInt8)) (s : List UInt8) : (dl D.str L).app (D.cons (.str s) .nil) = dl D.str (L ++ [s]) := app_one (f := D.str) L s
theorem entry_eq (a b : List UInt8) : ([114] ++ a) ++ [32, 100] ++ b = 114 :: (a ++ 32 :: 100 :: b) := by simp
theorem deal_fn (o : Off) (i : Nat) (x : Cs) (ho : offOK o = true) (hr : o.cs[i]? = some x) : FnM prog 222 true o.o [.int .i64 i] (fun x' rs => rs = [.bool (dealB o x)] ∧ (dealB o x = true → x' = (outO o i x).o)) := by
  have hp := off_parts ho
  have hx := case_parts (hp.2.2.2.2.2.2.2.2.2 x (List.mem_of_getElem? hr))
  have hil := lt_of_get hr
  have hi0 : (0 : Int) ≤ (i : Int) := by omega
  have hgA := allT_get hr
  have hgn : (dl Cs.o o.cs).nth i = some (x.p (.sl true 1 (dl iD x.h))) := by rw [dl_nth, hr]; rfl
  have hcmf : cm (false, x) = x.p (.sl false 1 (dl iD x.h)) := rfl
  have hset : (dl Cs.o o.cs).setN i (x.p (.sl false 1 (dl iD x.h))) = dl cm ((allT o.cs).set i (false, x)) := by
    rw [← dl_allT, ← hcmf, dl_setN]
  have hgF : ((allT o.cs).set i (false, x))[i]? = some (false, x) := by
    rw [List.getElem?_set, if_pos rfl, if_pos (lt_of_get hgA)]
  have hxs : x.p (.sl false 1 (dl iD x.h)) = x.s := rfl
  have hD := deleteC_fn (((allT o.cs).set i (false, x)).map cm) (cm_size _) i (i + 1) (by omega) (by simp [allT]; omega)
  rw [allT_del hil, show ((i + 1 : Nat) : Int) = (i : Int) + 1 by omega] at hD
  have hD : FnM prog 250 false (.sl true 4 (dl cm ((allT o.cs).set i (false, x)))) [.int .i64 i, .int .i64 ((i : Int) + 1)] (fun x' rs => (∃ u, x' = .lnk 0 u) ∧ rs = [.sl true 4 (dl Cs.o (o.cs.eraseIdx i))]) := hD
  refine FnM_ofg (ps := [[1, 1, 1, 0, 1, 0, 1, 1, 1, 1, 1], [1, 0], [1, 0]]) (fn := f222) (by exact func222) c222 r222 (n := 75) (by rfl) (rv := [.tmp 4]) (by rfl) (by decide) (by simp) ?_
  unfold m222
  try simp only [wQ]
  simp only [ghAll, ghAt]
  simp only [Off.o, offP]
  repeat' (first | (simp only [onC_true, ↓wA, ↓wC, wB, frzBE, frzBS, reduceEqDiff, reduceAdd, reduceSub, reduceIte, reduceCtorEq, Nat.reduceBEq, reduceLT]) | ((first | apply execG_split | apply execC_split | apply onPick_split) <;> intro h <;> try simp only [h]))
  refine exec_gh _ (unlink 0 none [1] (es := 4) (xs := dl Cs.o o.cs) rfl rfl) fun v1 => ?_
  simp only [obSet, ↓wA, ↓wC, wB, frzBE, frzBS, reduceEqDiff, reduceAdd, reduceSub, reduceIte, reduceCtorEq, Nat.reduceBEq, reduceLT]
  refine exec_gh1 (freeze 1 (some i) [3] (x := .sl true 1 (dl iD x.h)) rfl (by simp only [obPart, hgn, Option.bind_some, dget_q3]) rfl) ?_
  simp only [obSet, hgn, Option.getD_some, dset_q3, D.unown, ints_unown, hset, ↓wA, ↓wC, wB, frzBE, frzBS, reduceEqDiff, reduceAdd, reduceSub, reduceIte, reduceCtorEq, Nat.reduceBEq, reduceLT]
  have hdl : (1 : Int) ≤ o.cs.length := by omega
  cases h1 : decide (o.day < x.d) with
  | true =>
    have hB : dealB o x = false := by
      have := of_decide_eq_true h1
      unfold dealB
      rw [decide_eq_false (by omega)]; rfl
    repeat' (first | (simp only [dl_nth, hi0, hgF, hcmf, Int.toNat_natCast, Option.map_some, onC_true, ints_noOwn, hxs, ↓rd_cs, Cs.s_isV, Cs.s_size, doff_s0, dget_s0, doff_s1, dget_s1, doff_s2, dget_s2, doff_s3, dget_s3, dl_len, h1, ↓wA, ↓wC, wB, frzBE, frzBS, reduceEqDiff, reduceAdd, reduceSub, reduceIte, reduceCtorEq, Nat.reduceBEq, reduceLT]) | ((first | apply execG_split | apply execC_split | apply onPick_split) <;> intro h <;> try simp only [h]))
    all_goals exact ⟨by rw [hB], fun h => by rw [hB] at h; cases h⟩
  | false =>
    have h1' := of_decide_eq_false h1
    have h0 : decide (x.d ≤ o.day) = true := decide_eq_true (by omega)
    cases h2 : decide (x.a = 1) with
    | true =>
      have h2' := of_decide_eq_true h2
      have hB : dealB o x = true := by unfold dealB; rw [h0, h2]; rfl
      have hO : (outO o i x).o = offP { o with kept := o.kept + 1 } (.sl true 4 (dl Cs.o (o.cs.eraseIdx i))) (.sl true 1 (dl D.str o.led)) := by
        unfold outO; rw [if_pos h2']; rfl
      repeat' (first | (simp only [dl_nth, hi0, hgF, hcmf, Int.toNat_natCast, Option.map_some, onC_true, ints_noOwn, hxs, ↓rd_cs, Cs.s_isV, Cs.s_size, doff_s0, dget_s0, doff_s1, dget_s1, doff_s2, dget_s2, doff_s3, dget_s3, dl_len, h1, h2, ↓wA, ↓wC, wB, frzBE, frzBS, reduceEqDiff, reduceAdd, reduceSub, reduceIte, reduceCtorEq, Nat.reduceBEq, reduceLT]) | (with_reducible refine onI_bare ?_ ?_; focus (simp only [InR]; omega)) | ((first | apply execG_split | apply execC_split | apply onPick_split) <;> intro h <;> try simp only [h]))
      refine callM_rel (bx := false) (r := 1) hD rfl rfl rfl ?_
      rintro _ _ ⟨⟨u, rfl⟩, rfl⟩
      repeat' (first | (simp only [dl_nth, hi0, hgF, hcmf, Int.toNat_natCast, Option.map_some, onC_true, ints_noOwn, hxs, ↓rd_cs, Cs.s_isV, Cs.s_size, doff_s0, dget_s0, doff_s1, dget_s1, doff_s2, dget_s2, doff_s3, dget_s3, dl_len, ↓wA, ↓wC, wB, frzBE, frzBS, reduceEqDiff, reduceAdd, reduceSub, reduceIte, reduceCtorEq, Nat.reduceBEq, reduceLT]) | ((first | apply execG_split | apply execC_split | apply onPick_split) <;> intro h <;> try simp only [h]))
      all_goals exact ⟨by rw [hB], fun _ => hO.symm⟩
    | false =>
      have h2' := of_decide_eq_false h2
      cases h3 : decide (x.a = 2) with
      | true =>
        have h3' := of_decide_eq_true h3
        have hB : dealB o x = true := by unfold dealB; rw [h0, h2, h3]; rfl
        have hO : (outO o i x).o = offP { o with moved := o.moved + 1 } (.sl true 4 (dl Cs.o (o.cs.eraseIdx i))) (.sl true 1 (dl D.str o.led)) := by
          unfold outO; rw [if_neg h2', if_pos h3']; rfl
        repeat' (first | (simp only [dl_nth, hi0, hgF, hcmf, Int.toNat_natCast, Option.map_some, onC_true, ints_noOwn, hxs, ↓rd_cs, Cs.s_isV, Cs.s_size, doff_s0, dget_s0, doff_s1, dget_s1, doff_s2, dget_s2, doff_s3, dget_s3, dl_len, h1, h2, h3, ↓wA, ↓wC, wB, frzBE, frzBS, reduceEqDiff, reduceAdd, reduceSub, reduceIte, reduceCtorEq, Nat.reduceBEq, reduceLT]) | (with_reducible refine onI_bare ?_ ?_; focus (simp only [InR]; omega)) | ((first | apply execG_split | apply execC_split | apply onPick_split) <;> intro h <;> try simp only [h]))
        refine callM_rel (bx := false) (r := 1) hD rfl rfl rfl ?_
        rintro _ _ ⟨⟨u, rfl⟩, rfl⟩
        repeat' (first | (simp only [dl_nth, hi0, hgF, hcmf, Int.toNat_natCast, Option.map_some, onC_true, ints_noOwn, hxs, ↓rd_cs, Cs.s_isV, Cs.s_size, doff_s0, dget_s0, doff_s1, dget_s1, doff_s2, dget_s2, doff_s3, dget_s3, dl_len, ↓wA, ↓wC, wB, frzBE, frzBS, reduceEqDiff, reduceAdd, reduceSub, reduceIte, reduceCtorEq, Nat.reduceBEq, reduceLT]) | ((first | apply execG_split | apply execC_split | apply onPick_split) <;> intro h <;> try simp only [h]))
        all_goals exact ⟨by rw [hB], fun _ => hO.symm⟩
      | false =>
        have h3' := of_decide_eq_false h3
        cases h4 : decide ((0 : Int) < (x.h.length : Int)) with
        | true =>
          have h4' := of_decide_eq_true h4
          have hB : dealB o x = false := by unfold dealB; rw [h0, h2, h3, decide_eq_false (by omega)]; rfl
          repeat' (first | (simp only [dl_nth, hi0, hgF, hcmf, Int.toNat_natCast, Option.map_some, onC_true, ints_noOwn, hxs, ↓rd_cs, Cs.s_isV, Cs.s_size, doff_s0, dget_s0, doff_s1, dget_s1, doff_s2, dget_s2, doff_s3, dget_s3, dl_len, h1, h2, h3, h4, ↓wA, ↓wC, wB, frzBE, frzBS, reduceEqDiff, reduceAdd, reduceSub, reduceIte, reduceCtorEq, Nat.reduceBEq, reduceLT]) | ((first | apply execG_split | apply execC_split | apply onPick_split) <;> intro h <;> try simp only [h]))
          all_goals exact ⟨by rw [hB], fun h => by rw [hB] at h; cases h⟩
        | false =>
          have h4' := of_decide_eq_false h4
          have hB : dealB o x = true := by unfold dealB; rw [h0, h2, h3, decide_eq_true (show x.h.length = 0 by omega)]; rfl
          have hO : (outO o i x).o = offP o (.sl true 4 (dl Cs.o (o.cs.eraseIdx i))) (.sl true 1 (dl D.str (o.led ++ [entryT x.i o.day]))) := by
            unfold outO; rw [if_neg h2', if_neg h3']; rfl
          have hiR : InR .i64 x.i := by simp only [InR]; omega
          have hdR : InR .i64 o.day := by simp only [InR]; omega
          have hN1 := decimal_fn x.i hiR
          have hN2 := decimal_fn o.day hdR
          have hl1 := itoa_le x.i hiR
          have hl2 := itoa_le o.day hdR
          have hE := entry_eq (Lib.itoa x.i) (Lib.itoa o.day)
          have hE' : 114 :: (Lib.itoa x.i ++ 32 :: 100 :: Lib.itoa o.day) = entryT x.i o.day := rfl
          repeat' (first | (simp only [dl_nth, hi0, hgF, hcmf, Int.toNat_natCast, Option.map_some, onC_true, ints_noOwn, hxs, ↓rd_cs, Cs.s_isV, Cs.s_size, doff_s0, dget_s0, doff_s1, dget_s1, doff_s2, dget_s2, doff_s3, dget_s3, dl_len, h1, h2, h3, h4, ↓wA, ↓wC, wB, frzBE, frzBS, reduceEqDiff, reduceAdd, reduceSub, reduceIte, reduceCtorEq, Nat.reduceBEq, reduceLT]) | ((first | apply execG_split | apply execC_split | apply onPick_split) <;> intro h <;> try simp only [h]))
          refine exec_gh _ (unlink 0 none [4] (es := 1) (xs := dl D.str o.led) rfl rfl) fun v2 => ?_
          simp only [obSet, ↓wA, ↓wC, wB, frzBE, frzBS, reduceEqDiff, reduceAdd, reduceSub, reduceIte, reduceCtorEq, Nat.reduceBEq, reduceLT]
          repeat' (first | (simp only [dl_nth, hi0, hgF, hcmf, Int.toNat_natCast, Option.map_some, onC_true, ints_noOwn, hxs, ↓rd_cs, Cs.s_isV, Cs.s_size, doff_s0, dget_s0, doff_s1, dget_s1, doff_s2, dget_s2, doff_s3, dget_s3, dl_len, h1, h2, h3, h4, hE, hE', app_strT, ↓wA, ↓wC, wB, frzBE, frzBS, reduceEqDiff, reduceAdd, reduceSub, reduceIte, reduceCtorEq, Nat.reduceBEq, reduceLT]) | (refine call_det (hN1) rfl rfl ?_) | (refine callP_det (hN1) rfl rfl ?_) | (refine call_det (hN2) rfl rfl ?_) | (refine callP_det (hN2) rfl rfl ?_) | (refine onJ_q ?_) | (with_reducible refine onI_bare ?_ ?_; focus (simp only [InR]; omega)) | (with_reducible refine onC_i ?_ ?_; focus omega) | (with_reducible refine onC_i ?_ ?_; focus (simp only [List.length_append, List.length_cons, List.length_nil]; omega)) | ((first | apply execG_split | apply execC_split | apply onPick_split) <;> intro h <;> try simp only [h]))
          refine onC_i (by simp) (onC_i (by omega) ?_)
          refine onI_bare (by simp only [InR]; omega) ?_
          refine callM_rel (bx := false) (r := 1) hD rfl rfl rfl ?_
          rintro _ _ ⟨⟨u, rfl⟩, rfl⟩
          repeat' (first | (simp only [dl_nth, hi0, hgF, hcmf, Int.toNat_natCast, Option.map_some, onC_true, ints_noOwn, hxs, ↓rd_cs, Cs.s_isV, Cs.s_size, doff_s0, dget_s0, doff_s1, dget_s1, doff_s2, dget_s2, doff_s3, dget_s3, dl_len, ↓wA, ↓wC, wB, frzBE, frzBS, reduceEqDiff, reduceAdd, reduceSub, reduceIte, reduceCtorEq, Nat.reduceBEq, reduceLT]) | ((first | apply execG_split | apply execC_split | apply onPick_split) <;> intro h <;> try simp only [h]))
          all_goals exact ⟨by rw [hB], fun _ => hO.symm⟩
end Go.Pe.Tryz
