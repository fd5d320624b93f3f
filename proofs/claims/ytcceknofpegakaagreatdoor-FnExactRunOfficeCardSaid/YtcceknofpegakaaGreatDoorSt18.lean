/- Runs of steps of an office: the law of RunOffice, walked. -/
import Derived.Test.YtcceknofpegakaaGreatDoorW4
import Derived.Test.YtcceknofpegakaaGreatDoorPeD
import Derived.Test.YtcceknofpegakaaGreatDoorMc1
import Derived.Test.YtcceknofpegakaaGreatDoorMc2
import Derived.Test.YtcceknofpegakaaGreatDoorMc3
import Derived.Test.YtcceknofpegakaaGreatDoorMc4
set_option maxRecDepth 100000
set_option maxHeartbeats 4000000
set_option linter.all false
namespace Go.Pe.Tryz
open Nat (reduceEqDiff reduceAdd reduceSub reduceLT)
open Go.Proofs.Tryz
def runX (o : Off) (ss : List Stp) : Off × Int := (runR o ss).getD (offZ, 0)
def runY (o : Off) (ss : List Stp) : Bool := (runR o ss).isSome
theorem runX_ok0 (o : Off) (ss : List Stp) : (runX o ss).1.ok0 := by
  unfold runX runR
  split
  · rename_i h
    rw [Bool.and_eq_true] at h
    exact off_ok0 (runN_ok (ss := ss) h.1 ss.length (Nat.le_refl _)).1
  · exact offZ_ok0
theorem implRunX_fn (o : Off) (ss : List Stp) (ho : o.ok0) (hl : ss.length ≤ 1048576) : Fn prog 46 [o.s, .sl false 4 (dl Stp.d ss)] (fun rs => rs = [(runX o ss).1.o, .int .i64 (runX o ss).2, .bool (runY o ss)]) := by
  have h := implRun_fn o ss ho hl
  unfold runX runY
  cases hq : runR o ss with
  | none => rw [hq] at h; exact h
  | some q => rw [hq] at h; exact h
theorem specRunX_fn (o : Off) (ss : List Stp) (ho : o.ok0) (hl : ss.length ≤ 1048576) : Fn prog 47 [o.s, .sl false 4 (dl Stp.d ss)] (fun rs => rs = [(runX o ss).1.s, .int .i64 (runX o ss).2, .bool (runY o ss)]) := by
  have h := specRun_fn o ss ho hl
  unfold runX runY
  cases hq : runR o ss with
  | none =>
    rw [hq] at h
    simpa [specRunRes, D.unown, Off.w_unown] using Fn_unown h
  | some q => rw [hq] at h; exact h
theorem lawRun_fn (o : Off) (ss : List Stp) (hr : o.raw) (hs : ss.length ≤ maxLen) : Fn prog 8 [o.s, .sl false 4 (dl Stp.d ss)] (fun rs => rs = [.bool true]) := by
  refine Fn_ofg (ps := [[1, 1, 1, 1, 1, 1, 1, 0], [1, 0]]) (fn := f8) (by exact func8) c8 r8 (n := 140) (by rfl) (rv := [.tmp 4]) (by rfl) (by simp) ?_
  unfold m8
  try simp only [wQ]
  simp only [ghAll, ghAt]
  repeat' (first | (simp only [Off.s_noOwn, Off.s_isV, onC_true, ↓wA, ↓wC, wB, frzBE, frzBS, reduceEqDiff, reduceAdd, reduceSub, reduceIte, reduceCtorEq, Nat.reduceBEq, reduceLT]) | ((first | apply execG_split | apply execC_split | apply onPick_split) <;> intro h <;> try simp only [h]))
  refine exec_gh1 (frzB 0 rfl) ?_
  simp only [frzBE, frzBS, Off.s_unown, ↓wA, ↓wC, wB, frzBE, frzBS, reduceEqDiff, reduceAdd, reduceSub, reduceIte, reduceCtorEq, Nat.reduceBEq, reduceLT]
  repeat' (first | (simp only [Off.s_noOwn, Off.s_isV, ↓rd_off, onC_true, ↓wA, ↓wC, wB, frzBE, frzBS, reduceEqDiff, reduceAdd, reduceSub, reduceIte, reduceCtorEq, Nat.reduceBEq, reduceLT]) | ((first | apply execG_split | apply execC_split | apply onPick_split) <;> intro h <;> try simp only [h]))
  refine call_rel (szOff_fn o hr) (by simp [argsD, argD, Off.s_unown]) fun rs h => ?_
  obtain ⟨m, rfl, m1, m2, m3⟩ := h
  refine ⟨.inl rfl, ?_⟩
  cases hd : decide (m < 0) with
  | true =>
    repeat' (first | (simp only [hd, ↓wA, ↓wC, wB, frzBE, frzBS, reduceEqDiff, reduceAdd, reduceSub, reduceIte, reduceCtorEq, Nat.reduceBEq, reduceLT]) | ((first | apply execG_split | apply execC_split | apply onPick_split) <;> intro h <;> try simp only [h]))
  | false =>
    have hd' := of_decide_eq_false hd
    have ho := m3 (by omega)
    repeat' (first | (simp only [hd, steps_noOwn, ↓wA, ↓wC, wB, frzBE, frzBS, reduceEqDiff, reduceAdd, reduceSub, reduceIte, reduceCtorEq, Nat.reduceBEq, reduceLT]) | ((first | apply execG_split | apply execC_split | apply onPick_split) <;> intro h <;> try simp only [h]))
    refine call_rel (szSteps_fn ss m (by omega) m2 hs) (by simp [argsD, argD, D.unown, steps_unown]) fun rs h => ?_
    obtain ⟨n, rfl, q1, q2, q3⟩ := h
    refine ⟨.inl rfl, ?_⟩
    cases he : decide (n < 0) with
    | true =>
      repeat' (first | (simp only [he, ↓wA, ↓wC, wB, frzBE, frzBS, reduceEqDiff, reduceAdd, reduceSub, reduceIte, reduceCtorEq, Nat.reduceBEq, reduceLT]) | ((first | apply execG_split | apply execC_split | apply onPick_split) <;> intro h <;> try simp only [h]))
    | false =>
      have he' := of_decide_eq_false he
      have hl := q3 (by omega)
      have hS := specRunX_fn o ss ho hl
      have hI := implRunX_fn o ss ho hl
      have hT := toOffice_own o ho
      have hTs := toOffice_fn o ho
      have hU := toSteps_own ss hl
      have hUs : Fn prog 58 [.sl false 4 (dl Stp.d ss)] (fun rs => rs = [.sl false 4 (dl Stp.d ss)]) := by simpa [D.unown, steps_unown] using Fn_unown hU
      have hx := runX_ok0 o ss
      generalize (runX o ss).1 = x at hS hI hx
      generalize (runX o ss).2 = c at hS hI
      generalize runY o ss = b at hS hI
      have hIs : Fn prog 46 [o.s, .sl false 4 (dl Stp.d ss)] (fun rs => rs = [x.s, .int .i64 c, .bool b]) := by simpa [D.unown, Off.o_unown] using Fn_unown hI
      have hE := eqOffice_refl o ho
      have hEx := eqOffice_refl x hx
      have hEs := eqSteps_refl ss hl
      have bo := sumC_bd o.cs ho.1.2
      have bx := sumC_bd x.cs hx.1.2
      have bol := ho.1.1
      have bxl := hx.1.1
      have lo := ho.2.1
      have lx := hx.2.1
      have hMo := markOffice_fn o 1 (by omega) (by omega) ho
      have hMs := markSteps_fn ss (1 + sumC o.cs + (o.led.length : Int)) (by omega) (by omega) hl
      have hMx := markOffice_fn x 1 (by omega) (by omega) hx
      have hH := heldOffice_fn x 1 (by omega) (by omega) hx
      have n1 : decide (1 + sumC o.cs + (o.led.length : Int) + 4 * (ss.length : Int) < 0) = false := decide_eq_false (by omega)
      have n3 : decide (1 + sumC x.cs + (x.led.length : Int) < 0) = false := decide_eq_false (by omega)
      have hbb : (b == b) = true := by cases b <;> rfl
      have hoA : ([x.o, .int .i64 c, .bool b].all D.allOwn) = true := by simp [D.allOwn, Off.o_own]
      have hno : ∀ q : Off, q.o.noOwn = false := fun q => by simp [Off.o, offP, D.noOwn]
      have hoB : ∀ q : Off, q.o.isStB = true := fun q => rfl
      repeat' (first | (simp only [he, steps_noOwn, hbb, n1, n3, hno, hoB, Off.s_noOwn, Off.s_isV, Off.s_size, Off.s_unown, Off.o_isV, Off.o_size, ↓rd_off, onC_true, ↓wA, ↓wC, wB, frzBE, frzBS, reduceEqDiff, reduceAdd, reduceSub, reduceIte, reduceCtorEq, Nat.reduceBEq, reduceLT]) | (refine call_det hTs (by simp [argsD, argD, Off.s_unown]) rfl ?_) | (refine call_det hUs (by simp [argsD, argD, D.unown, steps_unown]) rfl ?_) | (refine call_det hS (by simp [argsD, argD, Off.s_unown, D.unown, steps_unown]) rfl ?_) | ((first | apply execG_split | apply execC_split | apply onPick_split) <;> intro h <;> try simp only [h]))
      refine exec_gh1 (Weak.refl _) ?_
      have hsu : (D.sl true 4 (dl Stp.d ss)).unown = .sl false 4 (dl Stp.d ss) := by simp [D.unown, steps_unown]
      have hEs' : Fn prog 59 [.sl false 4 (dl Stp.d ss).unown, .sl false 4 (dl Stp.d ss)] (fun rs => rs = [.bool true]) := by rw [steps_unown]; exact hEs
      repeat' (first | (simp only [he, steps_noOwn, steps_unown, hbb, n1, n3, hno, hoB, dl_len, Off.s_noOwn, Off.s_isV, Off.s_size, Off.s_unown, Off.o_isV, Off.o_size, ↓rd_off, onC_true, decide_true, ↓wA, ↓wC, wB, frzBE, frzBS, reduceEqDiff, reduceAdd, reduceSub, reduceIte, reduceCtorEq, Nat.reduceBEq, reduceLT]) | (refine call_det hT (by simp [argsD, argD, Off.s_unown]) rfl ?_) | (refine call_det hU (by simp [argsD, argD, D.unown, steps_unown]) rfl ?_) | (refine call_det hI (by show some [o.o.unown, D.sl false 4 (dl Stp.d ss).unown] = _; rw [Off.o_unown, steps_unown]) (by rw [hoA, Bool.or_true]) ?_) | (refine call_det hEx (congrArg (fun d : D => some [d, x.s]) (Off.o_unown x)) rfl ?_) | (refine call_det hEs (by show some [D.sl false 4 (dl Stp.d ss).unown, D.sl false 4 (dl Stp.d ss).unown] = _; rw [steps_unown]) rfl ?_) | (refine callP_det hTs (by simp [argsD, argD, Off.s_unown]) rfl ?_) | (refine callP_det hE (congrArg (fun d : D => some [d, o.s]) (Off.o_unown o)) rfl ?_) | (refine callVw_det hMo rfl rfl rfl ?_) | (refine callM_det hMs rfl rfl rfl ?_) | (refine callVw_det hMx rfl rfl rfl ?_) | (refine call_det hH (congrArg (fun d : D => some [d, .int .i64 1]) (Off.o_unown (mO 1 x))) rfl ?_) | ((first | apply execG_split | apply execC_split | apply onPick_split) <;> intro h <;> try simp only [h]))
theorem stp_of (x : D) (h : Typed stepSh x) : ∃ s : Stp, x = s.d ∧ True := by
  obtain ⟨k, i, a, v, rfl⟩ := step_of x h
  exact ⟨⟨k, i, a, v⟩, rfl, trivial⟩
theorem lawRun (x0 x1 : D) (h0 : Typed offSh x0) (h1 : Typed (.sl 4 stepSh) x1) : Fn prog 8 [x0, x1] (fun rs => rs = [.bool true]) := by
  obtain ⟨o, rfl, hr⟩ := off_of x0 h0
  obtain ⟨ds, rfl, l1, l2⟩ := h1
  obtain ⟨ss, hs, hl, _⟩ := typed_list (f := Stp.d) (P := fun _ => True) stp_of ds l2
  rw [hs]
  exact lawRun_fn o ss hr (by rw [hl]; exact l1)
end Go.Pe.Tryz
