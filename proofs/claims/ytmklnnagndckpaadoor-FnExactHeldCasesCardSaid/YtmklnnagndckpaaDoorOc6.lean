/- The cases of an office with a hold: the reference, walked; the law of HeldCases. -/
import Derived.Test.YtmklnnagndckpaaDoorW2
set_option maxRecDepth 100000
set_option maxHeartbeats 4000000
set_option linter.all false
namespace Go.Pe.Tryd
open Go.Proofs.Tryd
theorem specHeld_fn (o : Off) (n : Int) (ho : o.ok0) : Fn prog 22 [o.s, .int .i64 n] (fun rs => rs = hldR n o) := by
  have hlen := ho.1.1
  have hV := l25Good_fn o ho
  have hN := l1In_fn n 1 9
  unfold hldR
  cases hv : offOK o with
  | false =>
    rw [hv] at hV
    refine Fn_of' (fn := f22) (by exact func22) c22 r22 (n := 43) (by rfl) (rv := [.tmp 4, .tmp 5]) (by rfl) (by simp) ?_
    unfold m22
    repeat' (first
        | (simp only [Off.s_noOwn, Off.s_isV, ↓rd_off, onC_true, ↓wA, ↓wC, wB, frzBE, frzBS, Nat.reduceEqDiff, Nat.reduceAdd, Nat.reduceSub, reduceIte, reduceCtorEq, Nat.reduceBEq, Nat.reduceLT, decide_true])
        | (refine call_det hV (by simp [argsD, argD, Off.s_unown]) rfl ?_)
        | (refine execG_split (fun h => ?_) (fun h => ?_) <;> simp only [h])
        | (refine execC_split (fun h => ?_) (fun h => ?_) <;> (try simp only [h]))
        | (refine onPick_split (fun h => ?_) (fun h => ?_) <;> (try simp only [h])))
    all_goals simp
  | true =>
    rw [hv] at hV
    cases hn : within n 1 9 with
    | false =>
      rw [hn] at hN
      refine Fn_of' (fn := f22) (by exact func22) c22 r22 (n := 43) (by rfl) (rv := [.tmp 4, .tmp 5]) (by rfl) (by simp) ?_
      unfold m22
      repeat' (first
          | (simp only [Off.s_noOwn, Off.s_isV, ↓rd_off, onC_true, ↓wA, ↓wC, wB, frzBE, frzBS, Nat.reduceEqDiff, Nat.reduceAdd, Nat.reduceSub, reduceIte, reduceCtorEq, Nat.reduceBEq, Nat.reduceLT, decide_true])
          | (refine call_det (hN) rfl rfl ?_)
          | (refine callP_det (hN) rfl rfl ?_)
          | (refine call_det hV (by simp [argsD, argD, Off.s_unown]) rfl ?_)
          | (refine execG_split (fun h => ?_) (fun h => ?_) <;> simp only [h])
          | (refine execC_split (fun h => ?_) (fun h => ?_) <;> (try simp only [h]))
          | (refine onPick_split (fun h => ?_) (fun h => ?_) <;> (try simp only [h])))
      all_goals simp
    | true =>
      rw [hn] at hN
      refine Fn_of' (fn := f22) (by exact func22) c22 r22 (n := 43) (by rfl) (rv := [.tmp 4, .tmp 5]) (by rfl) (by simp) ?_
      unfold m22
      repeat' (first
          | (simp only [Off.s_noOwn, Off.s_isV, ↓rd_off, onC_true, ↓wA, ↓wC, wB, frzBE, frzBS, Nat.reduceEqDiff, Nat.reduceAdd, Nat.reduceSub, reduceIte, reduceCtorEq, Nat.reduceBEq, Nat.reduceLT, decide_true])
          | (refine call_det (hN) rfl rfl ?_)
          | (refine callP_det (hN) rfl rfl ?_)
          | (refine call_det hV (by simp [argsD, argD, Off.s_unown]) rfl ?_)
          | (refine execG_split (fun h => ?_) (fun h => ?_) <;> simp only [h])
          | (refine execC_split (fun h => ?_) (fun h => ?_) <;> (try simp only [h]))
          | (refine onPick_split (fun h => ?_) (fun h => ?_) <;> (try simp only [h])))
      refine exec_range o.cs.length (fun i : Nat => ⟨[(1, .d (.int .i64 n)), (2, .ptr 0 0 []), (6, .own 1), (7, .d (.int .i64 i))], [.box o.s, .val (.sl true 1 (dl iD (idsOf (hldB n) (o.cs.take i))))]⟩) (fun _ => True) (weak_of _ rfl ⟨⟨rfl, rfl⟩, ⟨rfl, rfl⟩, ⟨rfl, rfl⟩, ⟨rfl, rfl⟩, trivial⟩) trivial ?_ ?_
      · intro i hlt _ hd h0
        obtain ⟨x, hr⟩ := get_lt hlt
        have hxo := ho.1.2 x (List.mem_of_getElem? hr)
        have hsn := idsOf_snoc (p := hldB n) hr
        have hvl := idsOf_len (hldB n) (o.cs.take i)
        rw [List.length_take, Nat.min_eq_left (by omega)] at hvl
        have hHas := l1Has_fn x.h n hxo
        cases hw : hldB n x with
        | false =>
          rw [hw] at hsn
          unfold hldB at hw; rw [hw] at hHas; have h1 := hw; have h2 := hw; have h3 := hw
          repeat' (first
              | (simp only [dl_len, hd, h0, dl_nth, Int.toNat_natCast, hr, Option.map_some, onC_true, css_noOwn, doff_o0, dget_o0, doff_o1, dget_o1, ↓rd_cs, ints_noOwn, fa_cs0, fa_cs1, fa_cs2, fa_cs3, doff_s0, dget_s0, doff_s1, dget_s1, doff_s2, dget_s2, doff_s3, dget_s3, Cs.s_isV, Cs.s_size, Cs.s_noOwn, h1, h2, h3, ↓wA, ↓wC, wB, frzBE, frzBS, Nat.reduceEqDiff, Nat.reduceAdd, Nat.reduceSub, reduceIte, reduceCtorEq, Nat.reduceBEq, Nat.reduceLT, decide_true])
              | (refine call_det (hHas) rfl rfl ?_)
              | (refine callP_det (hHas) rfl rfl ?_)
              | (with_reducible refine onI_bare ?_ ?_; focus (simp only [InR]; omega))
              | (refine execG_split (fun h => ?_) (fun h => ?_) <;> simp only [h])
              | (refine execC_split (fun h => ?_) (fun h => ?_) <;> (try simp only [h]))
              | (refine onPick_split (fun h => ?_) (fun h => ?_) <;> (try simp only [h])))
          all_goals first
            | (refine ⟨i + 1, ?_, by omega, by omega⟩
               rw [hsn]
               simp only [Bool.false_eq_true, if_false, List.append_nil]
               exact (weak_of _ rfl ⟨⟨rfl, rfl⟩, ⟨rfl, rfl⟩, ⟨rfl, rfl⟩, ⟨rfl, rfl⟩, trivial⟩))
            | (exfalso; simp_all; done)
        | true =>
          rw [hw] at hsn
          unfold hldB at hw; rw [hw] at hHas; have h1 := hw; have h2 := hw; have h3 := hw
          repeat' (first
              | (simp only [dl_len, hd, h0, dl_nth, Int.toNat_natCast, hr, Option.map_some, onC_true, css_noOwn, doff_o0, dget_o0, doff_o1, dget_o1, ↓rd_cs, ints_noOwn, fa_cs0, fa_cs1, fa_cs2, fa_cs3, doff_s0, dget_s0, doff_s1, dget_s1, doff_s2, dget_s2, doff_s3, dget_s3, Cs.s_isV, Cs.s_size, Cs.s_noOwn, app_int, h1, h2, h3, ↓wA, ↓wC, wB, frzBE, frzBS, Nat.reduceEqDiff, Nat.reduceAdd, Nat.reduceSub, reduceIte, reduceCtorEq, Nat.reduceBEq, Nat.reduceLT, decide_true])
              | (refine call_det (hHas) rfl rfl ?_)
              | (refine callP_det (hHas) rfl rfl ?_)
              | (with_reducible refine onI_bare ?_ ?_; focus (simp only [InR]; omega))
              | (with_reducible refine onC_i ?_ ?_; focus omega)
              | (with_reducible refine onC_i ?_ ?_; focus (simp; done))
              | (refine execG_split (fun h => ?_) (fun h => ?_) <;> simp only [h])
              | (refine execC_split (fun h => ?_) (fun h => ?_) <;> (try simp only [h]))
              | (refine onPick_split (fun h => ?_) (fun h => ?_) <;> (try simp only [h])))
          all_goals first
            | (refine ⟨i + 1, ?_, by omega, by omega⟩
               rw [hsn]
               simp only [if_true]
               exact (weak_of _ rfl ⟨⟨rfl, rfl⟩, ⟨rfl, rfl⟩, ⟨rfl, rfl⟩, ⟨rfl, rfl⟩, trivial⟩))
            | (exfalso; simp_all; done)
      · intro _ hd
        repeat' (first
            | (simp only [hd, dl_len, List.take_length, css_noOwn, doff_o1, dget_o1, onC_true, ↓wA, ↓wC, wB, frzBE, frzBS, Nat.reduceEqDiff, Nat.reduceAdd, Nat.reduceSub, reduceIte, reduceCtorEq, Nat.reduceBEq, Nat.reduceLT, decide_true])
            | (refine execG_split (fun h => ?_) (fun h => ?_) <;> simp only [h])
            | (refine execC_split (fun h => ?_) (fun h => ?_) <;> (try simp only [h]))
            | (refine onPick_split (fun h => ?_) (fun h => ?_) <;> (try simp only [h])))
      all_goals simp
theorem hldR_ex (n : Int) (o : Off) (ho : o.ok0) : ∃ v c, hldR n o = [.sl true 1 (dl iD v), .bool c] ∧ v.length ≤ 1048576 := by
  unfold hldR
  split
  · exact ⟨_, _, rfl, Nat.le_trans (idsOf_len (hldB n) o.cs) ho.1.1⟩
  · exact ⟨[], _, rfl, by simp⟩
theorem specHeldN (n : Int) (o : Off) (ho : o.ok0) : Fn prog 22 [o.s, .int .i64 n] (fun rs => rs = hldR n o) := specHeld_fn o n ho
theorem implHeldN (n : Int) (o : Off) (ho : o.ok0) : Fn prog 23 [o.s, .int .i64 n] (fun rs => rs = hldR n o) := implHeld_fn o n ho
theorem lawHeld_fn (o : Off) (n : Int) (hr : o.raw) : Fn prog 6 [o.s, .int .i64 n] (fun rs => rs = [.bool true]) := by
  refine Fn_of' (fn := f6) (by exact func6) c6 r6 (n := 101) (by rfl) (rv := [.tmp 4]) (by rfl) (by simp) ?_
  unfold m6
  repeat' (first
      | (simp only [Off.s_noOwn, Off.s_isV, ↓rd_off, onC_true, ↓wA, ↓wC, wB, frzBE, frzBS, Nat.reduceEqDiff, Nat.reduceAdd, Nat.reduceSub, reduceIte, reduceCtorEq, Nat.reduceBEq, Nat.reduceLT, decide_true])
      | (refine execG_split (fun h => ?_) (fun h => ?_) <;> simp only [h])
      | (refine execC_split (fun h => ?_) (fun h => ?_) <;> (try simp only [h]))
      | (refine onPick_split (fun h => ?_) (fun h => ?_) <;> (try simp only [h])))
  refine call_rel (szOff_fn o hr) (by simp [argsD, argD, Off.s_unown]) fun rs h => ?_
  obtain ⟨m, rfl, m1, m2, m3⟩ := h
  refine ⟨.inl rfl, ?_⟩
  cases hd : decide (m < 0) with
  | true =>
    repeat' (first
        | (simp only [hd, ↓wA, ↓wC, wB, frzBE, frzBS, Nat.reduceEqDiff, Nat.reduceAdd, Nat.reduceSub, reduceIte, reduceCtorEq, Nat.reduceBEq, Nat.reduceLT, decide_true])
        | (refine execG_split (fun h => ?_) (fun h => ?_) <;> simp only [h])
        | (refine execC_split (fun h => ?_) (fun h => ?_) <;> (try simp only [h]))
        | (refine onPick_split (fun h => ?_) (fun h => ?_) <;> (try simp only [h])))
  | false =>
    have hd' := of_decide_eq_false hd
    have ho := m3 (by omega)
    obtain ⟨v, c, hR, hvl⟩ := hldR_ex n o ho
    have hS0 := specHeldN n o ho
    rw [hR] at hS0
    have hS : Fn prog 22 [o.s, .int .i64 n] (fun rs => rs = [.sl false 1 (dl iD v), .bool c]) := by simpa [D.unown, ints_unown] using Fn_unown hS0
    have hI := implHeldN n o ho
    rw [hR] at hI
    have hE := eqOffice_refl o ho
    have hEv := eqIntS_refl v hvl
    have hT := toOffice_own o ho
    have hTs := toOffice_fn o ho
    have bx := sumC_bd o.cs ho.1.2
    have hMx := markOffice_fn o 1 (by omega) (by omega) ho
    have hMv := markI_fn v 1 (by omega) (by omega) hvl
    have hHv := heldI_fn v.length 1 (by omega) (by omega) hvl
    have n1 : decide (1 + sumC o.cs + (o.led.length : Int) < 0) = false := decide_eq_false (by omega)
    have n3 : decide (1 + (v.length : Int) < 0) = false := decide_eq_false (by omega)
    have hEv' : Fn prog 16 [.sl false 1 (dl iD v).unown, .sl false 1 (dl iD v)] (fun rs => rs = [.bool true]) := by rw [ints_unown]; exact hEv
    have hHv' : Fn prog 19 [.sl false 1 (dl iD (ups v.length 1)).unown, .int .i64 1] (fun rs => rs = [.int .i64 (1 + v.length)]) := by rw [ints_unown]; exact hHv
    have hoA : (([D.sl true 1 (dl iD v), .bool c]).all D.allOwn) = true := by simp [D.allOwn, dl_allOwn iD_allOwn]
    have hcc : (c == c) = true := by cases c <;> rfl
    repeat' (first
        | (simp only [hd, hcc, n1, n3, ints_noOwn, Off.s_noOwn, Off.s_isV, Off.s_size, Off.s_unown, Off.o_noOwn, Off.o_isV, Off.o_isStB, Off.o_size, ↓rd_off, onC_true, ↓wA, ↓wC, wB, frzBE, frzBS, Nat.reduceEqDiff, Nat.reduceAdd, Nat.reduceSub, reduceIte, reduceCtorEq, Nat.reduceBEq, Nat.reduceLT, decide_true])
        | (refine execG_split (fun h => ?_) (fun h => ?_) <;> simp only [h])
        | (refine execC_split (fun h => ?_) (fun h => ?_) <;> (try simp only [h]))
        | (refine onPick_split (fun h => ?_) (fun h => ?_) <;> (try simp only [h])))
    refine call_det hTs (by simp [argsD, argD, Off.s_unown]) rfl ?_
    repeat' (first
        | (simp only [hd, hcc, n1, n3, ints_noOwn, Off.s_noOwn, Off.s_isV, Off.s_size, Off.s_unown, Off.o_noOwn, Off.o_isV, Off.o_isStB, Off.o_size, ↓rd_off, onC_true, ↓wA, ↓wC, wB, frzBE, frzBS, Nat.reduceEqDiff, Nat.reduceAdd, Nat.reduceSub, reduceIte, reduceCtorEq, Nat.reduceBEq, Nat.reduceLT, decide_true])
        | (refine execG_split (fun h => ?_) (fun h => ?_) <;> simp only [h])
        | (refine execC_split (fun h => ?_) (fun h => ?_) <;> (try simp only [h]))
        | (refine onPick_split (fun h => ?_) (fun h => ?_) <;> (try simp only [h])))
    refine call_det hS (by simp [argsD, argD, Off.s_unown]) rfl ?_
    repeat' (first
        | (simp only [hd, hcc, n1, n3, ints_noOwn, Off.s_noOwn, Off.s_isV, Off.s_size, Off.s_unown, Off.o_noOwn, Off.o_isV, Off.o_isStB, Off.o_size, ↓rd_off, onC_true, ↓wA, ↓wC, wB, frzBE, frzBS, Nat.reduceEqDiff, Nat.reduceAdd, Nat.reduceSub, reduceIte, reduceCtorEq, Nat.reduceBEq, Nat.reduceLT, decide_true])
        | (refine execG_split (fun h => ?_) (fun h => ?_) <;> simp only [h])
        | (refine execC_split (fun h => ?_) (fun h => ?_) <;> (try simp only [h]))
        | (refine onPick_split (fun h => ?_) (fun h => ?_) <;> (try simp only [h])))
    refine call_det hT (by simp [argsD, argD, Off.s_unown]) rfl ?_
    repeat' (first
        | (simp only [hd, hcc, n1, n3, ints_noOwn, Off.s_noOwn, Off.s_isV, Off.s_size, Off.s_unown, Off.o_noOwn, Off.o_isV, Off.o_isStB, Off.o_size, ↓rd_off, onC_true, ↓wA, ↓wC, wB, frzBE, frzBS, Nat.reduceEqDiff, Nat.reduceAdd, Nat.reduceSub, reduceIte, reduceCtorEq, Nat.reduceBEq, Nat.reduceLT, decide_true])
        | (refine execG_split (fun h => ?_) (fun h => ?_) <;> simp only [h])
        | (refine execC_split (fun h => ?_) (fun h => ?_) <;> (try simp only [h]))
        | (refine onPick_split (fun h => ?_) (fun h => ?_) <;> (try simp only [h])))
    refine call_det hI (congrArg (fun d : D => some [d, .int .i64 n]) (Off.o_unown o)) (by rw [hoA, Bool.or_true]) ?_
    repeat' (first
        | (simp only [hd, hcc, n1, n3, ints_noOwn, Off.s_noOwn, Off.s_isV, Off.s_size, Off.s_unown, Off.o_noOwn, Off.o_isV, Off.o_isStB, Off.o_size, ↓rd_off, onC_true, ↓wA, ↓wC, wB, frzBE, frzBS, Nat.reduceEqDiff, Nat.reduceAdd, Nat.reduceSub, reduceIte, reduceCtorEq, Nat.reduceBEq, Nat.reduceLT, decide_true])
        | (refine call_det hEv' rfl rfl ?_)
        | (refine callP_det hTs (by simp [argsD, argD, Off.s_unown]) rfl ?_)
        | (refine callP_det hE (congrArg (fun d : D => some [d, o.s]) (Off.o_unown o)) rfl ?_)
        | (refine callVw_det hMx rfl rfl rfl ?_)
        | (refine callM_det hMv rfl rfl rfl ?_)
        | (refine call_det hHv' rfl rfl ?_)
        | (refine call_det hTs (by simp [argsD, argD, Off.s_unown]) rfl ?_)
        | (refine call_det hI (by simp [argsD, argD, Off.s_unown]) (by rw [hoA, Bool.or_true]) ?_)
        | (refine execG_split (fun h => ?_) (fun h => ?_) <;> simp only [h])
        | (refine execC_split (fun h => ?_) (fun h => ?_) <;> (try simp only [h]))
        | (refine onPick_split (fun h => ?_) (fun h => ?_) <;> (try simp only [h])))
    all_goals simp_all
theorem lawHeld (x0 x1 : D) (h0 : Typed offSh x0) (h1 : Typed (.int .i64) x1) : Fn prog 6 [x0, x1] (fun rs => rs = [.bool true]) := by
  obtain ⟨o, rfl, hr⟩ := off_of x0 h0
  obtain ⟨n, rfl, _⟩ := h1
  exact lawHeld_fn o n hr
end Go.Pe.Tryd
