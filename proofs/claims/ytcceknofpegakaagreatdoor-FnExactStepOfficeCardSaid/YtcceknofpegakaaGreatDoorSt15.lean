/- Steps of an office: the law of StepOffice. -/
import Derived.Test.YtcceknofpegakaaGreatDoorW4
import Derived.Test.YtcceknofpegakaaGreatDoorPeD
import Derived.Test.YtcceknofpegakaaGreatDoorMc1
import Derived.Test.YtcceknofpegakaaGreatDoorMc2
import Derived.Test.YtcceknofpegakaaGreatDoorMc3
import Derived.Test.YtcceknofpegakaaGreatDoorMc4
set_option maxRecDepth 100000
set_option maxHeartbeats 4000000
set_option linter.all false
namespace Go.Pe.Tryz
open Nat (reduceEqDiff reduceAdd reduceSub reduceLT)
open Go.Proofs.Tryz
theorem heldOffice_fn (o : Off) (k : Int) (h0 : 0 ≤ k) (h1 : k ≤ 1000) (ho : o.ok0) : Fn prog 56 [(mO k o).s, .int .i64 k] (fun rs => rs = [.int .i64 (k + sumC o.cs + o.led.length)]) := by
  have hb := sumC_bd o.cs ho.1.2
  have hbl := ho.1.1
  have hll := ho.2.1
  have m1 := heldCaseS_fn o.cs k h0 h1 ho.1.1 ho.1.2
  have m2 := heldS_fn o.led.length (k + sumC o.cs) (by omega) (by omega) ho.2.1
  have n1 : decide (k + sumC o.cs < 0) = false := decide_eq_false (by omega)
  have n2 : decide (k + sumC o.cs + (o.led.length : Int) < 0) = false := decide_eq_false (by omega)
  refine Fn_of' (fn := f56) (by exact func56) c56 r56 (n := 18) (by rfl) (rv := [.tmp 4]) (by rfl) (by simp) ?_
  unfold m56
  try simp only [wQ]
  repeat' (first | (simp only [Off.s, offP, mO, css_noOwn, strs_noOwn, n1, n2, onC_true, ↓wA, ↓wC, wB, frzBE, frzBS, reduceEqDiff, reduceAdd, reduceSub, reduceIte, reduceCtorEq, Nat.reduceBEq, reduceLT, sz62]) | (refine call_det (m1) rfl rfl ?_) | (refine callP_det (m1) rfl rfl ?_) | (refine call_det (m2) rfl rfl ?_) | (refine callP_det (m2) rfl rfl ?_) | ((first | apply execG_split | apply execC_split | apply onPick_split) <;> intro h <;> try simp only [h]))
theorem toStep_fn (k id a v : Int) : Fn prog 53 [stD k id a v] (fun rs => rs = [stD k id a v]) := by
  refine Fn_of' (fn := f53) (by exact func53) c53 r53 (n := 17) (by rfl) (rv := [.cell 2 62]) (by rfl) (by simp) ?_
  unfold m53
  try simp only [wQ]
  simp only [stD]
  repeat' (first | (simp only [onC_true, ↓wA, ↓wC, wB, frzBE, frzBS, reduceEqDiff, reduceAdd, reduceSub, reduceIte, reduceCtorEq, Nat.reduceBEq, reduceLT, sz62]) | ((first | apply execG_split | apply execC_split | apply onPick_split) <;> intro h <;> try simp only [h]))
  all_goals rfl
def lsA (o x : Off) (b : Bool) (k id a v : Int) (j : Nat) (l : List Ob) : St := ⟨[(2, .d (.ptr o.s)), (3, .d (.ptr (stD k id a v))), (6, .ptr 2 0 []), (7, .d (.bool b)), (8, .ptr 4 0 []), (9, .ptr j 0 []), (10, .d (.bool b))], [.dead, .dead, .box x.s, .dead, .box o.o] ++ l ++ [.box x.o]⟩
theorem lawStep_fn (o : Off) (k id a v : Int) (hr : o.raw) : Fn prog 7 [o.s, stD k id a v] (fun rs => rs = [.bool true]) := by
  refine Fn_ofg (ps := [[1, 0], [1, 0]]) (fn := f7) (by exact func7) c7 r7 (n := 104) (by rfl) (rv := [.tmp 4]) (by rfl) (by simp) ?_
  unfold m7
  try simp only [wQ]
  simp only [ghAll, ghAt]
  simp only [stD]
  repeat' (first | (simp only [Off.s_noOwn, Off.s_isV, onC_true, ↓wA, ↓wC, wB, frzBE, frzBS, reduceEqDiff, reduceAdd, reduceSub, reduceIte, reduceCtorEq, Nat.reduceBEq, reduceLT, sz62]) | ((first | apply execG_split | apply execC_split | apply onPick_split) <;> intro h <;> try simp only [h]))
  refine exec_gh1 (frzB 0 rfl) ?_
  simp only [frzBE, frzBS, Off.s_unown, ↓wA, ↓wC, wB, frzBE, frzBS, reduceEqDiff, reduceAdd, reduceSub, reduceIte, reduceCtorEq, Nat.reduceBEq, reduceLT, sz62]
  refine exec_gh1 (frzB 1 rfl) ?_
  simp only [frzBE, frzBS, D.unown, ↓wA, ↓wC, wB, frzBE, frzBS, reduceEqDiff, reduceAdd, reduceSub, reduceIte, reduceCtorEq, Nat.reduceBEq, reduceLT, sz62]
  repeat' (first | (simp only [Off.s_noOwn, Off.s_isV, ↓rd_off, onC_true, ↓wA, ↓wC, wB, frzBE, frzBS, reduceEqDiff, reduceAdd, reduceSub, reduceIte, reduceCtorEq, Nat.reduceBEq, reduceLT, sz62]) | ((first | apply execG_split | apply execC_split | apply onPick_split) <;> intro h <;> try simp only [h]))
  refine call_rel (szOff_fn o hr) (by simp [argsD, argD, Off.s_unown]) fun rs h => ?_
  obtain ⟨m, rfl, m1, m2, m3⟩ := h
  refine ⟨.inl rfl, ?_⟩
  cases hd : decide (m < 0) with
  | true =>
    repeat' (first | (simp only [hd, ↓wA, ↓wC, wB, frzBE, frzBS, reduceEqDiff, reduceAdd, reduceSub, reduceIte, reduceCtorEq, Nat.reduceBEq, reduceLT, sz62]) | ((first | apply execG_split | apply execC_split | apply onPick_split) <;> intro h <;> try simp only [h]))
  | false =>
    have hd' := of_decide_eq_false hd
    have ho := m3 (by omega)
    have hS := specStepX_fn o k id a v ho
    have hI := implStepX_fn o k id a v ho
    have hT := toOffice_own o ho
    have hTs := toOffice_fn o ho
    have hQ := toStep_fn k id a v
    have hx := stepX_ok0 o k id a v
    have hIs : Fn prog 37 [o.s, stD k id a v] (fun rs => rs = [(stepX o k id a v).s, .bool (stepY o k id a v)]) := by simpa [D.unown, Off.o_unown] using Fn_unown hI
    generalize stepX o k id a v = x at hS hI hx hIs
    generalize stepY o k id a v = b at hS hI hIs
    have hE := eqOffice_refl o ho
    have hEx := eqOffice_refl x hx
    have bo := sumC_bd o.cs ho.1.2
    have bx := sumC_bd x.cs hx.1.2
    have lo := ho.2.1
    have lx := hx.2.1
    have hMo := markOffice_fn o 1 (by omega) (by omega) ho
    have hMx := markOffice_fn x 1 (by omega) (by omega) hx
    have hH := heldOffice_fn x 1 (by omega) (by omega) hx
    have n1 : decide (1 + sumC o.cs + (o.led.length : Int) < 0) = false := decide_eq_false (by omega)
    have n3 : decide (1 + sumC x.cs + (x.led.length : Int) < 0) = false := decide_eq_false (by omega)
    have hbb : (b == b) = true := by cases b <;> rfl
    have hoA : ([x.o, .bool b].all D.allOwn) = true := by simp [D.allOwn, Off.o_own]
    have hno : ∀ q : Off, q.o.noOwn = false := fun q => by simp [Off.o, offP, D.noOwn]
    have hoB : ∀ q : Off, q.o.isStB = true := fun q => rfl
    simp only [stD] at hS hI hIs hQ
    repeat' (first | (simp only [hd, onC_true, ↓wA, ↓wC, wB, frzBE, frzBS, reduceEqDiff, reduceAdd, reduceSub, reduceIte, reduceCtorEq, Nat.reduceBEq, reduceLT, sz62]) | ((first | apply execG_split | apply execC_split | apply onPick_split) <;> intro h <;> try simp only [h]))
    refine onJ_i (fun s => Weak s ⟨[(2, .d (.ptr o.s)), (3, .d (.ptr (stD k id a v))), (6, .ptr 2 0 []), (7, .d (.bool b))], [.dead, .dead, .box x.s]⟩) ?_ ?_
    · repeat' (first | (simp only [Off.s_noOwn, Off.s_isV, Off.s_size, ↓rd_off, onC_true, ↓wA, ↓wC, wB, frzBE, frzBS, reduceEqDiff, reduceAdd, reduceSub, reduceIte, reduceCtorEq, Nat.reduceBEq, reduceLT, sz62]) | (with_reducible refine And.intro ?_ ?_) | (refine call_det hTs (by simp [argsD, argD, Off.s_unown]) rfl ?_) | (refine call_det hQ rfl rfl ?_) | (refine call_det hS (by simp [argsD, argD, Off.s_unown]) rfl ?_) | ((first | apply execG_split | apply execC_split | apply onPick_split) <;> intro h <;> try simp only [h]))
      all_goals exact (weak_of _ rfl ⟨⟨rfl, rfl⟩, ⟨rfl, rfl⟩, ⟨rfl, rfl⟩, ⟨rfl, rfl⟩, trivial⟩)
    · intro s' hs'
      refine ⟨_, hs', ?_⟩
      simp only [stD]
      repeat' (first | (simp only [Off.s_noOwn, Off.s_isV, Off.s_size, Off.o_isV, Off.o_size, hno, hoB, ↓rd_off, onC_true, ↓wA, ↓wC, wB, frzBE, frzBS, reduceEqDiff, reduceAdd, reduceSub, reduceIte, reduceCtorEq, Nat.reduceBEq, reduceLT, sz62]) | (refine call_det hT (by simp [argsD, argD, Off.s_unown]) rfl ?_) | ((first | apply execG_split | apply execC_split | apply onPick_split) <;> intro h <;> try simp only [h]))
      refine onJ_i (fun s => Weak s (lsA o x b k id a v 6 [.dead]) ∨ Weak s (lsA o x b k id a v 5 [])) ?_ ?_
      · repeat' (first | (simp only [Off.s_noOwn, Off.s_isV, Off.s_size, Off.o_isV, Off.o_size, hno, hoB, ↓rd_off, onC_true, ↓wA, ↓wC, wB, frzBE, frzBS, reduceEqDiff, reduceAdd, reduceSub, reduceIte, reduceCtorEq, Nat.reduceBEq, reduceLT, sz62]) | (with_reducible refine And.intro ?_ ?_) | (refine call_det hQ rfl rfl ?_) | (refine call_det hI (congrArg (fun d : D => some [d, .st (.cons (.int .i64 k) (.cons (.int .i64 id) (.cons (.int .i64 a) (.cons (.int .i64 v) .nil))))]) (Off.o_unown o)) (by rw [hoA, Bool.or_true]) ?_) | ((first | apply execG_split | apply execC_split | apply onPick_split) <;> intro h <;> try simp only [h]))
        all_goals (first | exact .inl (weak_of _ rfl ⟨⟨rfl, rfl⟩, ⟨rfl, rfl⟩, ⟨rfl, rfl⟩, ⟨rfl, rfl⟩, ⟨rfl, rfl⟩, ⟨rfl, rfl⟩, ⟨rfl, rfl⟩, trivial⟩) | exact .inr (weak_of _ rfl ⟨⟨rfl, rfl⟩, ⟨rfl, rfl⟩, ⟨rfl, rfl⟩, ⟨rfl, rfl⟩, ⟨rfl, rfl⟩, ⟨rfl, rfl⟩, ⟨rfl, rfl⟩, trivial⟩) | trace_state)
      · unfold lsA
        rintro s' (h | h)
        · refine ⟨_, h, ?_⟩
          simp only [List.cons_append, List.nil_append, stD]
          repeat' (first | (simp only [Off.s_noOwn, Off.s_isV, Off.s_size, Off.s_unown, Off.o_isV, Off.o_size, hno, hoB, hbb, n1, n3, ↓rd_off, onC_true, ↓wA, ↓wC, wB, frzBE, frzBS, reduceEqDiff, reduceAdd, reduceSub, reduceIte, reduceCtorEq, Nat.reduceBEq, reduceLT, sz62]) | (refine call_det hEx (congrArg (fun d : D => some [d, x.s]) (Off.o_unown x)) rfl ?_) | (refine callP_det hTs (by simp [argsD, argD, Off.s_unown]) rfl ?_) | (refine callP_det hE (congrArg (fun d : D => some [d, o.s]) (Off.o_unown o)) rfl ?_) | (refine callVw_det hMo rfl rfl rfl ?_) | (refine callVw_det hMx rfl rfl rfl ?_) | (refine call_det hH (congrArg (fun d : D => some [d, .int .i64 1]) (Off.o_unown (mO 1 x))) rfl ?_) | ((first | apply execG_split | apply execC_split | apply onPick_split) <;> intro h <;> try simp only [h]))
          refine onJ_i (fun s => Weak s ⟨[(6, .ptr 2 0 []), (7, .d (.bool b)), (9, .ptr 6 0 []), (12, .d (.int .i64 (1 + sumC x.cs + (x.led.length : Int)))), (14, .ptr 7 0 []), (15, .d (.bool b))], [.dead, .dead, .box x.s, .dead, .box (mO 1 o).o] ++ [.dead] ++ [.box (mO 1 x).o, .box x.s]⟩) ?_ ?_
          · repeat' (first | (simp only [Off.s_noOwn, Off.s_isV, Off.s_size, Off.o_isV, Off.o_size, hno, hoB, ↓rd_off, onC_true, ↓wA, ↓wC, wB, frzBE, frzBS, reduceEqDiff, reduceAdd, reduceSub, reduceIte, reduceCtorEq, Nat.reduceBEq, reduceLT, sz62]) | (with_reducible refine And.intro ?_ ?_) | (refine call_det hTs (by simp [argsD, argD, Off.s_unown]) rfl ?_) | (refine call_det hQ rfl rfl ?_) | (refine call_det hIs (by simp [argsD, argD, Off.s_unown]) rfl ?_) | ((first | apply execG_split | apply execC_split | apply onPick_split) <;> intro h <;> try simp only [h]))
            all_goals exact (weak_of _ rfl ⟨⟨rfl, rfl⟩, ⟨rfl, rfl⟩, ⟨rfl, rfl⟩, ⟨rfl, rfl⟩, ⟨rfl, rfl⟩, ⟨rfl, rfl⟩, trivial⟩)
          · intro s2 h2
            refine ⟨_, h2, ?_⟩
            simp only [List.cons_append, List.nil_append]
            repeat' (first | (simp only [Off.s_noOwn, Off.s_isV, Off.s_size, Off.s_unown, Off.o_isV, Off.o_size, hno, hoB, hbb, n1, n3, ↓rd_off, onC_true, ↓wA, ↓wC, wB, frzBE, frzBS, reduceEqDiff, reduceAdd, reduceSub, reduceIte, reduceCtorEq, Nat.reduceBEq, reduceLT, sz62]) | (refine call_det hEx (by simp [argsD, argD, Off.s_unown]) rfl ?_) | (refine call_det hH (congrArg (fun d : D => some [d, .int .i64 1]) (Off.o_unown (mO 1 x))) rfl ?_) | ((first | apply execG_split | apply execC_split | apply onPick_split) <;> intro h <;> try simp only [h]))
            all_goals simp_all
        · refine ⟨_, h, ?_⟩
          simp only [List.cons_append, List.nil_append, stD]
          repeat' (first | (simp only [Off.s_noOwn, Off.s_isV, Off.s_size, Off.s_unown, Off.o_isV, Off.o_size, hno, hoB, hbb, n1, n3, ↓rd_off, onC_true, ↓wA, ↓wC, wB, frzBE, frzBS, reduceEqDiff, reduceAdd, reduceSub, reduceIte, reduceCtorEq, Nat.reduceBEq, reduceLT, sz62]) | (refine call_det hEx (congrArg (fun d : D => some [d, x.s]) (Off.o_unown x)) rfl ?_) | (refine callP_det hTs (by simp [argsD, argD, Off.s_unown]) rfl ?_) | (refine callP_det hE (congrArg (fun d : D => some [d, o.s]) (Off.o_unown o)) rfl ?_) | (refine callVw_det hMo rfl rfl rfl ?_) | (refine callVw_det hMx rfl rfl rfl ?_) | (refine call_det hH (congrArg (fun d : D => some [d, .int .i64 1]) (Off.o_unown (mO 1 x))) rfl ?_) | ((first | apply execG_split | apply execC_split | apply onPick_split) <;> intro h <;> try simp only [h]))
          refine onJ_i (fun s => Weak s ⟨[(6, .ptr 2 0 []), (7, .d (.bool b)), (9, .ptr 5 0 []), (12, .d (.int .i64 (1 + sumC x.cs + (x.led.length : Int)))), (14, .ptr 6 0 []), (15, .d (.bool b))], [.dead, .dead, .box x.s, .dead, .box (mO 1 o).o] ++ [] ++ [.box (mO 1 x).o, .box x.s]⟩) ?_ ?_
          · repeat' (first | (simp only [Off.s_noOwn, Off.s_isV, Off.s_size, Off.o_isV, Off.o_size, hno, hoB, ↓rd_off, onC_true, ↓wA, ↓wC, wB, frzBE, frzBS, reduceEqDiff, reduceAdd, reduceSub, reduceIte, reduceCtorEq, Nat.reduceBEq, reduceLT, sz62]) | (with_reducible refine And.intro ?_ ?_) | (refine call_det hTs (by simp [argsD, argD, Off.s_unown]) rfl ?_) | (refine call_det hQ rfl rfl ?_) | (refine call_det hIs (by simp [argsD, argD, Off.s_unown]) rfl ?_) | ((first | apply execG_split | apply execC_split | apply onPick_split) <;> intro h <;> try simp only [h]))
            all_goals exact (weak_of _ rfl ⟨⟨rfl, rfl⟩, ⟨rfl, rfl⟩, ⟨rfl, rfl⟩, ⟨rfl, rfl⟩, ⟨rfl, rfl⟩, ⟨rfl, rfl⟩, trivial⟩)
          · intro s2 h2
            refine ⟨_, h2, ?_⟩
            simp only [List.cons_append, List.nil_append]
            repeat' (first | (simp only [Off.s_noOwn, Off.s_isV, Off.s_size, Off.s_unown, Off.o_isV, Off.o_size, hno, hoB, hbb, n1, n3, ↓rd_off, onC_true, ↓wA, ↓wC, wB, frzBE, frzBS, reduceEqDiff, reduceAdd, reduceSub, reduceIte, reduceCtorEq, Nat.reduceBEq, reduceLT, sz62]) | (refine call_det hEx (by simp [argsD, argD, Off.s_unown]) rfl ?_) | (refine call_det hH (congrArg (fun d : D => some [d, .int .i64 1]) (Off.o_unown (mO 1 x))) rfl ?_) | ((first | apply execG_split | apply execC_split | apply onPick_split) <;> intro h <;> try simp only [h]))
            all_goals simp_all
def stepSh : Sh := .st (.cons (.int .i64) (.cons (.int .i64) (.cons (.int .i64) (.cons (.int .i64) .nil))))
theorem step_of (x : D) (h : Typed stepSh x) : ∃ k id a v : Int, x = stD k id a v := by
  obtain ⟨_, rfl, _, _, rfl, ⟨k, rfl, _⟩, _, _, rfl, ⟨i, rfl, _⟩, _, _, rfl, ⟨a, rfl, _⟩, _, _, rfl, ⟨v, rfl, _⟩, rfl⟩ := h
  exact ⟨k, i, a, v, rfl⟩
theorem lawStep (x0 x1 : D) (h0 : Typed offSh x0) (h1 : Typed stepSh x1) : Fn prog 7 [x0, x1] (fun rs => rs = [.bool true]) := by
  obtain ⟨o, rfl, hr⟩ := off_of x0 h0
  obtain ⟨k, i, a, v, rfl⟩ := step_of x1 h1
  exact lawStep_fn o k i a v hr
end Go.Pe.Tryz
