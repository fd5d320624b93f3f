/- The cases of an office of which something is so; those that are due, blocked, held; walked -/
import Derived.Test.YtmklnnagndckpaaDoorW1
set_option maxRecDepth 100000
set_option maxHeartbeats 4000000
set_option linter.all false
namespace Go.Pe.Tryd
open Go.Proofs.Tryd
theorem doff_o0 {x : Off} : doff [0] x.s = 0 := rfl
theorem doff_o1 {x : Off} : doff [1] x.s = 1 := rfl
theorem dget_o0 {x : Off} : dget [0] x.s = some (.int .i64 x.day) := rfl
theorem dget_o1 {x : Off} : dget [1] x.s = some (.sl false 4 (dl Cs.s x.cs)) := rfl
theorem fa_off0 {x : Off} {K : SV → Prop} : stepFa 0 0 (.d (.ptr x.s)) K = K (.d (.ptr (.int .i64 x.day))) := by simp [Off.s, offP, stepFa, D.pre, D.nth, D.size]
def idsOf (p : Cs → Bool) (xs : List Cs) : List Int := (xs.filter p).map Cs.i
theorem idsOf_snoc {p : Cs → Bool} {xs : List Cs} {i : Nat} {x : Cs} (hr : xs[i]? = some x) : idsOf p (xs.take (i + 1)) = idsOf p (xs.take i) ++ (if p x = true then [x.i] else []) := by
  unfold idsOf
  rw [take_get hr, List.filter_append, List.map_append]
  cases h : p x <;> simp [h]
theorem idsOf_len (p : Cs → Bool) (xs : List Cs) : (idsOf p xs).length ≤ xs.length := by
  unfold idsOf
  rw [List.length_map]
  exact List.length_filter_le _ _
theorem app_int (V : List Int) (n : Int) : (dl iD V).app (D.cons (.int .i64 n) .nil) = dl iD (V ++ [n]) := app_one (f := iD) V n
theorem casesBy_fn (p : Cs → Bool) (g : Nat) (c : D) (o : Off) (ho : o.ok0) (hc : c.caps = true) (he : enterOK prog.P g = true) (hp : ∀ x ∈ o.cs, Fn prog g (x.s :: c.list) (fun rs => rs = [.bool (p x)])) : Fn prog 39 [o.s, .clo g c] (fun rs => rs = [.sl true 1 (dl iD (idsOf p o.cs))]) := by
  have hlen := ho.1.1
  refine Fn_of' (fn := f39) (by exact func39) c39 r39 (n := 25) (by rfl) (rv := [.tmp 4]) (by rfl) (by simp) ?_
  unfold m39
  repeat' (first
      | (simp only [Off.s_noOwn, Off.s_isV, onC_true, dl_len, css_noOwn, doff_o1, dget_o1, ↓wA, ↓wC, wB, frzBE, frzBS, Nat.reduceEqDiff, Nat.reduceAdd, Nat.reduceSub, reduceIte, reduceCtorEq, Nat.reduceBEq, Nat.reduceLT, decide_true])
      | (refine execG_split (fun h => ?_) (fun h => ?_) <;> simp only [h])
      | (refine execC_split (fun h => ?_) (fun h => ?_) <;> (try simp only [h]))
      | (refine onPick_split (fun h => ?_) (fun h => ?_) <;> (try simp only [h])))
  refine exec_rangeN [(5, 1)] o.cs.length (fun i : Nat => ⟨[(1, .d (.clo g c)), (5, .own 1), (9, .d (.sl false 4 (dl Cs.s o.cs))), (10, .d (.int .i64 o.cs.length)), (11, .d (.int .i64 i))], [.box o.s, .val (.sl true 1 (dl iD (idsOf p (o.cs.take i))))]⟩) (fun _ => True) ⟨rfl, trivial⟩ ?_ trivial ?_ ?_
  · exact (weak_of _ rfl ⟨⟨rfl, rfl⟩, ⟨rfl, rfl⟩, ⟨rfl, rfl⟩, ⟨rfl, rfl⟩, ⟨rfl, rfl⟩, trivial⟩)
  · intro i hlt _ hd h0
    obtain ⟨x, hr⟩ := get_lt hlt
    have hW := hp x (List.mem_of_getElem? hr)
    have hsn := idsOf_snoc (p := p) hr
    have hvl := idsOf_len p (o.cs.take i)
    rw [List.length_take, Nat.min_eq_left (by omega)] at hvl
    repeat' (first
        | (simp only [dl_len, hd, h0, dl_nth, Int.toNat_natCast, hr, Option.map_some, onC_true, ↓rd_cs, Cs.s_isV, Cs.s_size, Cs.s_noOwn, ↓wA, ↓wC, wB, frzBE, frzBS, Nat.reduceEqDiff, Nat.reduceAdd, Nat.reduceSub, reduceIte, reduceCtorEq, Nat.reduceBEq, Nat.reduceLT, decide_true])
        | (refine execG_split (fun h => ?_) (fun h => ?_) <;> simp only [h])
        | (refine execC_split (fun h => ?_) (fun h => ?_) <;> (try simp only [h]))
        | (refine onPick_split (fun h => ?_) (fun h => ?_) <;> (try simp only [h])))
    refine callW_det (ds := [x.s]) hW he hc (by simp [argsD, argD, valOf, Cs.s_unown]) rfl ?_
    cases hw : p x with
    | false =>
      rw [hw] at hsn
      repeat' (first
          | (simp only [onC_true, ↓wA, ↓wC, wB, frzBE, frzBS, Nat.reduceEqDiff, Nat.reduceAdd, Nat.reduceSub, reduceIte, reduceCtorEq, Nat.reduceBEq, Nat.reduceLT, decide_true])
          | (with_reducible refine onI_bare ?_ ?_; focus (simp only [InR]; omega))
          | (refine execG_split (fun h => ?_) (fun h => ?_) <;> simp only [h])
          | (refine execC_split (fun h => ?_) (fun h => ?_) <;> (try simp only [h]))
          | (refine onPick_split (fun h => ?_) (fun h => ?_) <;> (try simp only [h])))
      refine ⟨i + 1, ?_, by omega, by omega⟩
      rw [hsn]
      simp only [Bool.false_eq_true, if_false, List.append_nil]
      exact (weak_of _ rfl ⟨⟨rfl, rfl⟩, ⟨rfl, rfl⟩, ⟨rfl, rfl⟩, ⟨rfl, rfl⟩, ⟨rfl, rfl⟩, trivial⟩)
    | true =>
      rw [hw] at hsn
      repeat' (first
          | (simp only [dl_len, onC_true, doff_s0, dget_s0, app_int, ↓wA, ↓wC, wB, frzBE, frzBS, Nat.reduceEqDiff, Nat.reduceAdd, Nat.reduceSub, reduceIte, reduceCtorEq, Nat.reduceBEq, Nat.reduceLT, decide_true])
          | (with_reducible refine onI_bare ?_ ?_; focus (simp only [InR]; omega))
          | (with_reducible refine onC_i ?_ ?_; focus omega)
          | (with_reducible refine onC_i ?_ ?_; focus (simp; done))
          | (refine execG_split (fun h => ?_) (fun h => ?_) <;> simp only [h])
          | (refine execC_split (fun h => ?_) (fun h => ?_) <;> (try simp only [h]))
          | (refine onPick_split (fun h => ?_) (fun h => ?_) <;> (try simp only [h])))
      refine ⟨i + 1, ?_, by omega, by omega⟩
      rw [hsn]
      simp only [if_true]
      exact (weak_of _ rfl ⟨⟨rfl, rfl⟩, ⟨rfl, rfl⟩, ⟨rfl, rfl⟩, ⟨rfl, rfl⟩, ⟨rfl, rfl⟩, trivial⟩)
  · intro _ hd
    repeat' (first
        | (simp only [hd, List.take_length, ↓wA, ↓wC, wB, frzBE, frzBS, Nat.reduceEqDiff, Nat.reduceAdd, Nat.reduceSub, reduceIte, reduceCtorEq, Nat.reduceBEq, Nat.reduceLT, decide_true])
        | (refine execG_split (fun h => ?_) (fun h => ?_) <;> simp only [h])
        | (refine execC_split (fun h => ?_) (fun h => ?_) <;> (try simp only [h]))
        | (refine onPick_split (fun h => ?_) (fun h => ?_) <;> (try simp only [h])))
/-! due -/
def dueR (b : Bool) (p : Cs → Bool) (o : Off) : List D := if offOK o = true then [.sl b 1 (dl iD (idsOf p o.cs)), .bool true] else [.sl true 1 .nil, .bool false]
def blkB (o : Off) (x : Cs) : Bool := decide (x.d ≤ o.day) && decide (x.a = 3) && decide (0 < (x.h.length : Int))
theorem blkClo_fn (o : Off) (x : Cs) : Fn prog 43 [x.s, .ptr o.s] (fun rs => rs = [.bool (blkB o x)]) := by
  unfold blkB
  cases h1 : decide (x.d ≤ o.day) <;> cases h2 : decide (x.a = 3)
  all_goals
    refine Fn_of' (fn := f43) (by exact func43) c43 r43 (n := 20) (by rfl) (rv := [.tmp 3]) (by rfl) (by simp) ?_
    unfold m43
    repeat' (first
        | (simp only [h1, h2, dl_len, ints_noOwn, onC_true, Cs.s_noOwn, Cs.s_isV, doff_s1, dget_s1, doff_s2, dget_s2, doff_s3, dget_s3, fa_off0, ↓wA, ↓wC, wB, frzBE, frzBS, Nat.reduceEqDiff, Nat.reduceAdd, Nat.reduceSub, reduceIte, reduceCtorEq, Nat.reduceBEq, Nat.reduceLT, decide_true])
        | (refine execG_split (fun h => ?_) (fun h => ?_) <;> simp only [h])
        | (refine execC_split (fun h => ?_) (fun h => ?_) <;> (try simp only [h]))
        | (refine onPick_split (fun h => ?_) (fun h => ?_) <;> (try simp only [h])))
    all_goals simp
theorem implBlk_fn (o : Off) (ho : o.ok0) : Fn prog 21 [o.s] (fun rs => rs = dueR true (blkB o) o) := by
  have hV := isOffice_fn o ho
  have h := casesBy_fn (blkB o) 43 (.cons (.ptr o.s) .nil) o ho rfl en43 (fun x _ => blkClo_fn o x)
  unfold dueR
  cases hv : offOK o with
  | false =>
    rw [hv] at hV
    refine Fn_of' (fn := f21) (by exact func21) c21 r21 (n := 10) (by rfl) (rv := [.tmp 2, .tmp 3]) (by rfl) (by simp) ?_
    unfold m21
    repeat' (first
        | (simp only [Off.s_noOwn, Off.s_isV, ↓rd_off, onC_true, ↓wA, ↓wC, wB, frzBE, frzBS, Nat.reduceEqDiff, Nat.reduceAdd, Nat.reduceSub, reduceIte, reduceCtorEq, Nat.reduceBEq, Nat.reduceLT, decide_true])
        | (refine call_det hV (by simp [argsD, argD, Off.s_unown]) rfl ?_)
        | (refine execG_split (fun h => ?_) (fun h => ?_) <;> simp only [h])
        | (refine execC_split (fun h => ?_) (fun h => ?_) <;> (try simp only [h]))
        | (refine onPick_split (fun h => ?_) (fun h => ?_) <;> (try simp only [h])))
    all_goals (refine take_nil 1 ?_; simp)
  | true =>
    rw [hv] at hV
    refine Fn_ofg (ps := [[1, 1, 0]]) (fn := f21) (by exact func21) c21 r21 (n := 10) (by rfl) (rv := [.tmp 2, .tmp 3]) (by rfl) (by simp) ?_
    unfold m21
    simp only [ghAll, ghAt]
    repeat' (first
        | (simp only [Off.s_noOwn, Off.s_isV, ↓rd_off, onC_true, ↓wA, ↓wC, wB, frzBE, frzBS, Nat.reduceEqDiff, Nat.reduceAdd, Nat.reduceSub, reduceIte, reduceCtorEq, Nat.reduceBEq, Nat.reduceLT, decide_true])
        | (refine call_det hV (by simp [argsD, argD, Off.s_unown]) rfl ?_)
        | (refine execG_split (fun h => ?_) (fun h => ?_) <;> simp only [h])
        | (refine execC_split (fun h => ?_) (fun h => ?_) <;> (try simp only [h]))
        | (refine onPick_split (fun h => ?_) (fun h => ?_) <;> (try simp only [h])))
    refine exec_gh1 (frzB 0 rfl) ?_
    repeat' (first
        | (simp only [Off.s_noOwn, Off.s_isV, ↓rd_off, onC_true, Off.s_unown, ↓wA, ↓wC, wB, frzBE, frzBS, Nat.reduceEqDiff, Nat.reduceAdd, Nat.reduceSub, reduceIte, reduceCtorEq, Nat.reduceBEq, Nat.reduceLT, decide_true])
        | (refine call_det h (by simp [argsD, argD, Off.s_unown]) rfl ?_)
        | (refine execG_split (fun h => ?_) (fun h => ?_) <;> simp only [h])
        | (refine execC_split (fun h => ?_) (fun h => ?_) <;> (try simp only [h]))
        | (refine onPick_split (fun h => ?_) (fun h => ?_) <;> (try simp only [h])))
    all_goals trace_state
/-! held -/
theorem specBlocked_fn (o : Off) (ho : o.ok0) : Fn prog 20 [o.s] (fun rs => rs = dueR true (blkB o) o) := by
  have hlen := ho.1.1
  have hV := l25Good_fn o ho
  unfold dueR
  cases hv : offOK o with
  | false =>
    rw [hv] at hV
    refine Fn_of' (fn := f20) (by exact func20) c20 r20 (n := 46) (by rfl) (rv := [.tmp 2, .tmp 3]) (by rfl) (by simp) ?_
    unfold m20
    repeat' (first
        | (simp only [Off.s_noOwn, Off.s_isV, ↓rd_off, onC_true, ↓wA, ↓wC, wB, frzBE, frzBS, Nat.reduceEqDiff, Nat.reduceAdd, Nat.reduceSub, reduceIte, reduceCtorEq, Nat.reduceBEq, Nat.reduceLT, decide_true])
        | (refine call_det hV (by simp [argsD, argD, Off.s_unown]) rfl ?_)
        | (refine execG_split (fun h => ?_) (fun h => ?_) <;> simp only [h])
        | (refine execC_split (fun h => ?_) (fun h => ?_) <;> (try simp only [h]))
        | (refine onPick_split (fun h => ?_) (fun h => ?_) <;> (try simp only [h])))
    all_goals simp
  | true =>
    rw [hv] at hV
    refine Fn_of' (fn := f20) (by exact func20) c20 r20 (n := 46) (by rfl) (rv := [.tmp 2, .tmp 3]) (by rfl) (by simp) ?_
    unfold m20
    repeat' (first
        | (simp only [Off.s_noOwn, Off.s_isV, ↓rd_off, onC_true, ↓wA, ↓wC, wB, frzBE, frzBS, Nat.reduceEqDiff, Nat.reduceAdd, Nat.reduceSub, reduceIte, reduceCtorEq, Nat.reduceBEq, Nat.reduceLT, decide_true])
        | (refine call_det hV (by simp [argsD, argD, Off.s_unown]) rfl ?_)
        | (refine execG_split (fun h => ?_) (fun h => ?_) <;> simp only [h])
        | (refine execC_split (fun h => ?_) (fun h => ?_) <;> (try simp only [h]))
        | (refine onPick_split (fun h => ?_) (fun h => ?_) <;> (try simp only [h])))
    refine exec_range o.cs.length (fun i : Nat => ⟨[(1, .ptr 0 0 []), (4, .own 1), (5, .d (.int .i64 i))], [.box o.s, .val (.sl true 1 (dl iD (idsOf (blkB o) (o.cs.take i))))]⟩) (fun _ => True) (weak_of _ rfl ⟨⟨rfl, rfl⟩, ⟨rfl, rfl⟩, ⟨rfl, rfl⟩, trivial⟩) trivial ?_ ?_
    · intro i hlt _ hd h0
      obtain ⟨x, hr⟩ := get_lt hlt
      have hxo := ho.1.2 x (List.mem_of_getElem? hr)
      have hsn := idsOf_snoc (p := blkB o) hr
      have hvl := idsOf_len (blkB o) (o.cs.take i)
      rw [List.length_take, Nat.min_eq_left (by omega)] at hvl
      skip
      cases hw : blkB o x with
      | false =>
        rw [hw] at hsn
        unfold blkB at hw; cases h1 : decide (x.d ≤ o.day) <;> cases h2 : decide (x.a = 3) <;> cases h3 : decide (0 < (x.h.length : Int)) <;> simp only [h1, h2, h3, Bool.true_and, Bool.false_and, Bool.and_true, Bool.and_false, Bool.true_eq_false, Bool.false_eq_true] at hw
        repeat' (first
            | (simp only [dl_len, hd, h0, dl_nth, Int.toNat_natCast, hr, Option.map_some, onC_true, css_noOwn, doff_o0, dget_o0, doff_o1, dget_o1, ↓rd_cs, ints_noOwn, fa_cs0, fa_cs1, fa_cs2, fa_cs3, doff_s0, dget_s0, doff_s1, dget_s1, doff_s2, dget_s2, doff_s3, dget_s3, Cs.s_isV, Cs.s_size, Cs.s_noOwn, h1, h2, h3, ↓wA, ↓wC, wB, frzBE, frzBS, Nat.reduceEqDiff, Nat.reduceAdd, Nat.reduceSub, reduceIte, reduceCtorEq, Nat.reduceBEq, Nat.reduceLT, decide_true])
            | (refine call_det (hV) rfl rfl ?_)
            | (refine callP_det (hV) rfl rfl ?_)
            | (with_reducible refine onI_bare ?_ ?_; focus (simp only [InR]; omega))
            | (refine execG_split (fun h => ?_) (fun h => ?_) <;> simp only [h])
            | (refine execC_split (fun h => ?_) (fun h => ?_) <;> (try simp only [h]))
            | (refine onPick_split (fun h => ?_) (fun h => ?_) <;> (try simp only [h])))
        all_goals first
          | (refine ⟨i + 1, ?_, by omega, by omega⟩
             rw [hsn]
             simp only [Bool.false_eq_true, if_false, List.append_nil]
             exact (weak_of _ rfl ⟨⟨rfl, rfl⟩, ⟨rfl, rfl⟩, ⟨rfl, rfl⟩, trivial⟩))
          | (exfalso; simp_all; done)
      | true =>
        rw [hw] at hsn
        unfold blkB at hw; cases h1 : decide (x.d ≤ o.day) <;> cases h2 : decide (x.a = 3) <;> cases h3 : decide (0 < (x.h.length : Int)) <;> simp only [h1, h2, h3, Bool.true_and, Bool.false_and, Bool.and_true, Bool.and_false, Bool.true_eq_false, Bool.false_eq_true] at hw
        repeat' (first
            | (simp only [dl_len, hd, h0, dl_nth, Int.toNat_natCast, hr, Option.map_some, onC_true, css_noOwn, doff_o0, dget_o0, doff_o1, dget_o1, ↓rd_cs, ints_noOwn, fa_cs0, fa_cs1, fa_cs2, fa_cs3, doff_s0, dget_s0, doff_s1, dget_s1, doff_s2, dget_s2, doff_s3, dget_s3, Cs.s_isV, Cs.s_size, Cs.s_noOwn, app_int, h1, h2, h3, ↓wA, ↓wC, wB, frzBE, frzBS, Nat.reduceEqDiff, Nat.reduceAdd, Nat.reduceSub, reduceIte, reduceCtorEq, Nat.reduceBEq, Nat.reduceLT, decide_true])
            | (refine call_det (hV) rfl rfl ?_)
            | (refine callP_det (hV) rfl rfl ?_)
            | (with_reducible refine onI_bare ?_ ?_; focus (simp only [InR]; omega))
            | (with_reducible refine onC_i ?_ ?_; focus omega)
            | (with_reducible refine onC_i ?_ ?_; focus (simp; done))
            | (refine execG_split (fun h => ?_) (fun h => ?_) <;> simp only [h])
            | (refine execC_split (fun h => ?_) (fun h => ?_) <;> (try simp only [h]))
            | (refine onPick_split (fun h => ?_) (fun h => ?_) <;> (try simp only [h])))
        all_goals first
          | (refine ⟨i + 1, ?_, by omega, by omega⟩
             rw [hsn]
             simp only [if_true]
             exact (weak_of _ rfl ⟨⟨rfl, rfl⟩, ⟨rfl, rfl⟩, ⟨rfl, rfl⟩, trivial⟩))
          | (exfalso; simp_all; done)
    · intro _ hd
      repeat' (first
          | (simp only [hd, dl_len, List.take_length, css_noOwn, doff_o1, dget_o1, onC_true, ↓wA, ↓wC, wB, frzBE, frzBS, Nat.reduceEqDiff, Nat.reduceAdd, Nat.reduceSub, reduceIte, reduceCtorEq, Nat.reduceBEq, Nat.reduceLT, decide_true])
          | (refine execG_split (fun h => ?_) (fun h => ?_) <;> simp only [h])
          | (refine execC_split (fun h => ?_) (fun h => ?_) <;> (try simp only [h]))
          | (refine onPick_split (fun h => ?_) (fun h => ?_) <;> (try simp only [h])))
end Go.Pe.Tryd
