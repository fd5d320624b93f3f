/- The laws of DueCases and BlockedCases. -/
import Derived.Test.YtmklnnagndckpaaDoorW2
import Derived.Test.YtmklnnagndckpaaDoorW1
set_option maxRecDepth 100000
set_option maxHeartbeats 4000000
set_option linter.all false
namespace Go.Pe.Tryd
open Go.Proofs.Tryd
theorem Off.o_noOwn (o : Off) : o.o.noOwn = false := by simp [Off.o, offP, D.noOwn]
theorem dueR_ex (p : Cs → Bool) (o : Off) (ho : o.ok0) : ∃ v c, dueR true p o = [.sl true 1 (dl iD v), .bool c] ∧ v.length ≤ 1048576 := by
  unfold dueR
  split
  · exact ⟨_, _, rfl, Nat.le_trans (idsOf_len p o.cs) ho.1.1⟩
  · exact ⟨[], _, rfl, by simp⟩
theorem Off.o_isStB (o : Off) : o.o.isStB = true := rfl
theorem lawBlk_fn (o : Off)  (hr : o.raw) : Fn prog 5 [o.s] (fun rs => rs = [.bool true]) := by
  refine Fn_of' (fn := f5) (by exact func5) c5 r5 (n := 96) (by rfl) (rv := [.tmp 2]) (by rfl) (by simp) ?_
  unfold m5
  repeat' (first
      | (simp only [Off.s_noOwn, Off.s_isV, ↓rd_off, onC_true, ↓wA, ↓wC, wB, frzBE, frzBS, Nat.reduceEqDiff, Nat.reduceAdd, Nat.reduceSub, reduceIte, reduceCtorEq, Nat.reduceBEq, Nat.reduceLT, decide_true])
      | (refine execG_split (fun h => ?_) (fun h => ?_) <;> simp only [h])
      | (refine execC_split (fun h => ?_) (fun h => ?_) <;> (try simp only [h]))
      | (refine onPick_split (fun h => ?_) (fun h => ?_) <;> (try simp only [h])))
  refine call_rel (szOff_fn o hr) (by simp [argsD, argD, Off.s_unown]) fun rs h => ?_
  obtain ⟨m, rfl, m1, m2, m3⟩ := h
  refine ⟨.inl rfl, ?_⟩
  cases hd : decide (m < 0) with
  | true =>
    repeat' (first
        | (simp only [hd, ↓wA, ↓wC, wB, frzBE, frzBS, Nat.reduceEqDiff, Nat.reduceAdd, Nat.reduceSub, reduceIte, reduceCtorEq, Nat.reduceBEq, Nat.reduceLT, decide_true])
        | (refine execG_split (fun h => ?_) (fun h => ?_) <;> simp only [h])
        | (refine execC_split (fun h => ?_) (fun h => ?_) <;> (try simp only [h]))
        | (refine onPick_split (fun h => ?_) (fun h => ?_) <;> (try simp only [h])))
  | false =>
    have hd' := of_decide_eq_false hd
    have ho := m3 (by omega)
    obtain ⟨v, c, hR, hvl⟩ := dueR_ex (blkB o) o ho
    have hS0 := specBlocked_fn o ho
    rw [hR] at hS0
    have hS : Fn prog 20 [o.s] (fun rs => rs = [.sl false 1 (dl iD v), .bool c]) := by simpa [D.unown, ints_unown] using Fn_unown hS0
    have hI := implBlk_fn o ho
    rw [hR] at hI
    have hE := eqOffice_refl o ho
    have hEv := eqIntS_refl v hvl
    have hT := toOffice_own o ho
    have hTs := toOffice_fn o ho
    have bx := sumC_bd o.cs ho.1.2
    have hMx := markOffice_fn o 1 (by omega) (by omega) ho
    have hMv := markI_fn v 1 (by omega) (by omega) hvl
    have hHv := heldI_fn v.length 1 (by omega) (by omega) hvl
    have n1 : decide (1 + sumC o.cs + (o.led.length : Int) < 0) = false := decide_eq_false (by omega)
    have n3 : decide (1 + (v.length : Int) < 0) = false := decide_eq_false (by omega)
    have hEv' : Fn prog 16 [.sl false 1 (dl iD v).unown, .sl false 1 (dl iD v)] (fun rs => rs = [.bool true]) := by rw [ints_unown]; exact hEv
    have hHv' : Fn prog 19 [.sl false 1 (dl iD (ups v.length 1)).unown, .int .i64 1] (fun rs => rs = [.int .i64 (1 + v.length)]) := by rw [ints_unown]; exact hHv
    have hoA : (([D.sl true 1 (dl iD v), .bool c]).all D.allOwn) = true := by simp [D.allOwn, dl_allOwn iD_allOwn]
    have hcc : (c == c) = true := by cases c <;> rfl
    repeat' (first
        | (simp only [hd, hcc, n1, n3, ints_noOwn, Off.s_noOwn, Off.s_isV, Off.s_size, Off.s_unown, Off.o_noOwn, Off.o_isV, Off.o_isStB, Off.o_size, ↓rd_off, onC_true, ↓wA, ↓wC, wB, frzBE, frzBS, Nat.reduceEqDiff, Nat.reduceAdd, Nat.reduceSub, reduceIte, reduceCtorEq, Nat.reduceBEq, Nat.reduceLT, decide_true])
        | (refine execG_split (fun h => ?_) (fun h => ?_) <;> simp only [h])
        | (refine execC_split (fun h => ?_) (fun h => ?_) <;> (try simp only [h]))
        | (refine onPick_split (fun h => ?_) (fun h => ?_) <;> (try simp only [h])))
    refine call_det hTs (by simp [argsD, argD, Off.s_unown]) rfl ?_
    repeat' (first
        | (simp only [hd, hcc, n1, n3, ints_noOwn, Off.s_noOwn, Off.s_isV, Off.s_size, Off.s_unown, Off.o_noOwn, Off.o_isV, Off.o_isStB, Off.o_size, ↓rd_off, onC_true, ↓wA, ↓wC, wB, frzBE, frzBS, Nat.reduceEqDiff, Nat.reduceAdd, Nat.reduceSub, reduceIte, reduceCtorEq, Nat.reduceBEq, Nat.reduceLT, decide_true])
        | (refine execG_split (fun h => ?_) (fun h => ?_) <;> simp only [h])
        | (refine execC_split (fun h => ?_) (fun h => ?_) <;> (try simp only [h]))
        | (refine onPick_split (fun h => ?_) (fun h => ?_) <;> (try simp only [h])))
    refine call_det hS (by simp [argsD, argD, Off.s_unown]) rfl ?_
    repeat' (first
        | (simp only [hd, hcc, n1, n3, ints_noOwn, Off.s_noOwn, Off.s_isV, Off.s_size, Off.s_unown, Off.o_noOwn, Off.o_isV, Off.o_isStB, Off.o_size, ↓rd_off, onC_true, ↓wA, ↓wC, wB, frzBE, frzBS, Nat.reduceEqDiff, Nat.reduceAdd, Nat.reduceSub, reduceIte, reduceCtorEq, Nat.reduceBEq, Nat.reduceLT, decide_true])
        | (refine execG_split (fun h => ?_) (fun h => ?_) <;> simp only [h])
        | (refine execC_split (fun h => ?_) (fun h => ?_) <;> (try simp only [h]))
        | (refine onPick_split (fun h => ?_) (fun h => ?_) <;> (try simp only [h])))
    refine call_det hT (by simp [argsD, argD, Off.s_unown]) rfl ?_
    repeat' (first
        | (simp only [hd, hcc, n1, n3, ints_noOwn, Off.s_noOwn, Off.s_isV, Off.s_size, Off.s_unown, Off.o_noOwn, Off.o_isV, Off.o_isStB, Off.o_size, ↓rd_off, onC_true, ↓wA, ↓wC, wB, frzBE, frzBS, Nat.reduceEqDiff, Nat.reduceAdd, Nat.reduceSub, reduceIte, reduceCtorEq, Nat.reduceBEq, Nat.reduceLT, decide_true])
        | (refine execG_split (fun h => ?_) (fun h => ?_) <;> simp only [h])
        | (refine execC_split (fun h => ?_) (fun h => ?_) <;> (try simp only [h]))
        | (refine onPick_split (fun h => ?_) (fun h => ?_) <;> (try simp only [h])))
    refine call_det hI (congrArg (fun d : D => some [d]) (Off.o_unown o)) (by rw [hoA, Bool.or_true]) ?_
    repeat' (first
        | (simp only [hd, hcc, n1, n3, ints_noOwn, Off.s_noOwn, Off.s_isV, Off.s_size, Off.s_unown, Off.o_noOwn, Off.o_isV, Off.o_isStB, Off.o_size, ↓rd_off, onC_true, ↓wA, ↓wC, wB, frzBE, frzBS, Nat.reduceEqDiff, Nat.reduceAdd, Nat.reduceSub, reduceIte, reduceCtorEq, Nat.reduceBEq, Nat.reduceLT, decide_true])
        | (refine call_det hEv' rfl rfl ?_)
        | (refine callP_det hTs (by simp [argsD, argD, Off.s_unown]) rfl ?_)
        | (refine callP_det hE (congrArg (fun d : D => some [d, o.s]) (Off.o_unown o)) rfl ?_)
        | (refine callVw_det hMx rfl rfl rfl ?_)
        | (refine callM_det hMv rfl rfl rfl ?_)
        | (refine call_det hHv' rfl rfl ?_)
        | (refine call_det hTs (by simp [argsD, argD, Off.s_unown]) rfl ?_)
        | (refine call_det hI (by simp [argsD, argD, Off.s_unown]) (by rw [hoA, Bool.or_true]) ?_)
        | (refine execG_split (fun h => ?_) (fun h => ?_) <;> simp only [h])
        | (refine execC_split (fun h => ?_) (fun h => ?_) <;> (try simp only [h]))
        | (refine onPick_split (fun h => ?_) (fun h => ?_) <;> (try simp only [h])))
    all_goals simp_all
theorem lawBlk (x0 : D) (h0 : Typed offSh x0) : Fn prog 5 [x0] (fun rs => rs = [.bool true]) := by
  obtain ⟨o, rfl, hr⟩ := off_of x0 h0
  exact lawBlk_fn o hr
end Go.Pe.Tryd
