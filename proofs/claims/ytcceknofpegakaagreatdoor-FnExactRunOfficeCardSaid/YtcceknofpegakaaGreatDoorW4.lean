/- Steps of an office: the reference's l25Make; walked; Steps of an office: the reference's StepOffice and RunOffice; walked; Steps of an office: the law of StepOffice; Runs of steps of an office: the reference's RunOffice; walked; Runs of steps of an office: the law of RunOffice -/
import Derived.Test.YtcceknofpegakaaGreatDoorW3
import Derived.Test.YtcceknofpegakaaGreatDoorPeD
import Derived.Test.YtcceknofpegakaaGreatDoorMc1
import Derived.Test.YtcceknofpegakaaGreatDoorMc2
import Derived.Test.YtcceknofpegakaaGreatDoorMc3
import Derived.Test.YtcceknofpegakaaGreatDoorMc4
set_option maxRecDepth 100000
set_option maxHeartbeats 4000000
set_option linter.all false
namespace Go.Pe.Tryz
open Nat (reduceEqDiff reduceAdd reduceSub reduceLT)
open Go.Proofs.Tryz
def MkR (o : Off) (k id a v : Int) (rs : List D) : Prop := ∃ q : Off, rs = [q.w, .bool (makeR o k id a v).isSome] ∧ ∀ q', makeR o k id a v = some q' → q' = q
theorem makeR_some {o q : Off} {k id a v : Int} (h : makeO o k id a v = some q) : makeR o k id a v = if offOK q = true then some q else none := by
  unfold makeR; rw [h]; rfl
theorem mkR_yes {o q : Off} {k id a v : Int} (h : makeO o k id a v = some q) {x : D} {b : Bool} (hx : x = q.w) (hb : b = offOK q) : MkR o k id a v [x, .bool b] := by
  have hm := makeR_some h
  refine ⟨q, ?_, fun q' h' => ?_⟩
  · rw [hx, hb, hm]
    cases offOK q <;> rfl
  · rw [hm] at h'
    split at h'
    · injection h' with h'; exact h'.symm
    · cases h'
theorem mkR_no {o : Off} {k id a v : Int} (q : Off) (h : makeO o k id a v = none) {x : D} (hx : x = q.w) : MkR o k id a v [x, .bool false] := by
  have hm : makeR o k id a v = none := by unfold makeR; rw [h]; rfl
  exact ⟨q, by rw [hx, hm]; rfl, fun q' h' => by rw [hm] at h'; cases h'⟩
theorem Off.w_unown (o : Off) : o.w.unown = o.s := by simp [Off.w, Off.s, offP, D.unown, css_unown, strs_unown]
theorem Off.w_noOwn (o : Off) : o.w.noOwn = false := by simp [Off.w, offP, D.noOwn]
theorem make_ok0 {o q : Off} {k id a v : Int} (ho : offOK o = true) (h : makeO o k id a v = some q) : q.ok0 := by
  have hp := off_parts ho
  have h0 := off_ok0 ho
  have hc : ∀ (i : Nat) (x : Cs), o.cs[i]? = some x → caseOK x = true := fun i x hr => hp.2.2.2.2.2.2.2.2.2 x (List.mem_of_getElem? hr)
  unfold makeO at h
  split at h
  · split at h
    · cases h
    · injection h with h; subst h; exact h0
  split at h
  · split at h
    · cases h
    · injection h with h
      subst h
      refine ⟨⟨?_, fun x hx => ?_⟩, h0.2⟩
      · simp [enterC]; omega
      · rcases List.mem_append.1 hx with hx | hx
        · exact h0.1.2 x (List.mem_of_mem_take hx)
        · rcases List.mem_cons.1 hx with rfl | hx
          · simp [Cs.ok0]
          · exact h0.1.2 x (List.mem_of_mem_drop hx)
  split at h
  · split at h
    · injection h with h
      subst h
      refine ⟨⟨by simpa using h0.1.1, fun x hx => ?_⟩, h0.2⟩
      obtain ⟨y, hy, rfl⟩ := List.mem_map.1 hx
      exact Nat.le_trans (List.length_filter_le (fun n => !decide (n = v)) y.h) (h0.1.2 y hy)
    · cases h
  split at h
  · rename_i x hr
    have hxc := case_parts (hc _ x hr)
    split at h
    · split at h
      · cases h
      · injection h with h
        subst h
        refine ⟨set_ok0 h0.1 ?_, h0.2⟩
        show (putI v x.h).length ≤ 1048576
        rw [putI_len]; omega
    · split at h
      · split at h
        · cases h
        · injection h with h
          subst h
          refine ⟨set_ok0 h0.1 ?_, h0.2⟩
          show x.h.length ≤ 1048576
          omega
      · split at h
        · injection h with h
          subst h
          have he : ∀ i, casesOk (o.cs.eraseIdx i) := fun i => ⟨by have := List.length_eraseIdx_le o.cs i; omega, fun y hy => h0.1.2 y (List.mem_of_mem_eraseIdx hy)⟩
          unfold outO
          split
          · exact ⟨he _, h0.2⟩
          · split
            · exact ⟨he _, h0.2⟩
            · refine ⟨he _, by simp; omega, fun s hs => ?_⟩
              rcases List.mem_append.1 hs with hs | hs
              · exact h0.2.2 s hs
              · rw [List.mem_singleton.1 hs]
                have h1 := itoa_le x.i (by simp only [InR]; omega)
                have h2 := itoa_le o.day (by simp only [InR]; omega)
                simp [entryT]; omega
        · cases h
  · cases h
theorem make1_fn (o : Off) (id a v : Int) (ho : offOK o = true) (hs : stepB o 1 id a v = true) : Fn prog 113 [o.s, stD 1 id a v] (MkR o 1 id a v) := by
  have hk1 : decide ((1 : Int) = 1) = true := rfl
  have hk2 : decide ((1 : Int) = 2) = false := rfl
  have hk3 : decide ((1 : Int) = 3) = false := rfl
  have hk4 : decide ((1 : Int) = 4) = false := rfl
  have hk5 : decide ((1 : Int) = 5) = false := rfl
  have hp := off_parts ho
  have ho0 := off_ok0 ho
  have hO := l25Own_fn o ho0
  have hF := l25Find_fn o id ho0
  have hv : 1 ≤ v := by simp [stepB] at hs; exact hs.2
  refine Fn_ofg (ps := [[1, 0], [1, 0]]) (fn := f113) (by exact func113) c113 r113 (n := 118) (by rfl) (rv := [.cell 4 35, .tmp 5]) (by rfl) (by simp) ?_
  unfold m113
  try simp only [wQ]
  simp only [ghAll, ghAt]
  simp only [stD]
  repeat' (first | (simp only [Off.s_noOwn, Off.s_isV, onC_true, ↓wA, ↓wC, wB, frzBE, frzBS, reduceEqDiff, reduceAdd, reduceSub, reduceIte, reduceCtorEq, Nat.reduceBEq, reduceLT, sz35]) | ((first | apply execG_split | apply execC_split | apply onPick_split) <;> intro h <;> try simp only [h]))
  refine exec_gh1 (frzB 0 rfl) ?_
  simp only [frzBE, frzBS, Off.s_unown, ↓wA, ↓wC, wB, frzBE, frzBS, reduceEqDiff, reduceAdd, reduceSub, reduceIte, reduceCtorEq, Nat.reduceBEq, reduceLT, sz35]
  refine exec_gh1 (frzB 1 rfl) ?_
  simp only [frzBE, frzBS, D.unown, ↓wA, ↓wC, wB, frzBE, frzBS, reduceEqDiff, reduceAdd, reduceSub, reduceIte, reduceCtorEq, Nat.reduceBEq, reduceLT, sz35]
  have hf0 : ∀ K : SV → Prop, stepFa 0 0 (.d (.ptr o.s)) K = K (.d (.ptr (.int .i64 o.day))) := fun K => by simp [Off.s, offP, stepFa, D.pre, D.nth, D.size]
  have hf1 : ∀ K : SV → Prop, stepFa 1 1 (.d (.ptr o.s)) K = K (.d (.ptr (.sl false 4 (dl Cs.s o.cs)))) := fun K => by simp [Off.s, offP, stepFa, D.pre, D.nth, D.size]
  cases hd : decide (20000 - o.day < v) with
  | true =>
    have hM : makeO o 1 id a v = none := by unfold makeO; rw [if_pos rfl, if_pos (of_decide_eq_true hd)]
    repeat' (first | (simp only [hk1, hk2, hk3, hk4, hk5, Off.s_noOwn, Off.s_isV, Off.s_size, Off.w, offP, css_noOwn, strs_noOwn, hf0, hf1, hd, ↓rd_off, onC_true, isStB_st, Int.toNat_natCast, ↓wA, ↓wC, wB, frzBE, frzBS, reduceEqDiff, reduceAdd, reduceSub, reduceIte, reduceCtorEq, Nat.reduceBEq, reduceLT, sz35]) | (refine onJ_q ?_) | (with_reducible refine And.intro ?_ ?_) | (refine call_det hO (by simp [argsD, argD, Off.s_unown]) rfl ?_) | (refine call_det hF (by simp [argsD, argD, Off.s_unown]) rfl ?_) | (with_reducible refine onI_bare ?_ ?_; focus (simp only [InR]; omega)) | ((first | apply execG_split | apply execC_split | apply onPick_split) <;> intro h <;> try simp only [h]))
    all_goals exact mkR_no o hM rfl
  | false =>
    have hM : makeO o 1 id a v = some { o with day := o.day + v } := by unfold makeO; rw [if_pos rfl, if_neg (of_decide_eq_false hd)]
    have hG := l25Good_fn _ (make_ok0 ho hM)
    have hd' := of_decide_eq_false hd
    have hu : (D.st (.cons (.int .i64 (o.day + v)) (.cons (.sl true 4 (dl Cs.s o.cs)) (.cons (.int .i64 o.kept) (.cons (.int .i64 o.moved) (.cons (.sl true 1 (dl D.str o.led)) .nil)))))).unown = Off.s { o with day := o.day + v } := Off.w_unown { o with day := o.day + v }
    repeat' (first | (simp only [hk1, hk2, hk3, hk4, hk5, Off.s_noOwn, Off.s_isV, Off.s_size, Off.w, offP, css_noOwn, strs_noOwn, hf0, hf1, hd, ↓rd_off, onC_true, isStB_st, Int.toNat_natCast, ↓wA, ↓wC, wB, frzBE, frzBS, reduceEqDiff, reduceAdd, reduceSub, reduceIte, reduceCtorEq, Nat.reduceBEq, reduceLT, sz35]) | (refine onJ_q ?_) | (with_reducible refine And.intro ?_ ?_) | (refine call_det hO (by simp [argsD, argD, Off.s_unown]) rfl ?_) | (refine call_det hF (by simp [argsD, argD, Off.s_unown]) rfl ?_) | (with_reducible refine onI_bare ?_ ?_; focus (simp only [InR]; omega)) | (refine call_det hG (congrArg (fun d : D => some [d]) hu) rfl ?_) | (refine callP_det hG (congrArg (fun d : D => some [d]) hu) rfl ?_) | ((first | apply execG_split | apply execC_split | apply onPick_split) <;> intro h <;> try simp only [h]))
    all_goals exact mkR_yes hM rfl rfl
theorem make2_fn (o : Off) (id a v : Int) (ho : offOK o = true) (hs : stepB o 2 id a v = true) : Fn prog 113 [o.s, stD 2 id a v] (MkR o 2 id a v) := by
  have hk1 : decide ((2 : Int) = 1) = false := rfl
  have hk2 : decide ((2 : Int) = 2) = true := rfl
  have hk3 : decide ((2 : Int) = 3) = false := rfl
  have hk4 : decide ((2 : Int) = 4) = false := rfl
  have hk5 : decide ((2 : Int) = 5) = false := rfl
  have hp := off_parts ho
  have ho0 := off_ok0 ho
  have hO := l25Own_fn o ho0
  have hF := l25Find_fn o id ho0
  have hv : 0 ≤ v := by simp [stepB] at hs; exact hs.2
  refine Fn_ofg (ps := [[1, 0], [1, 0]]) (fn := f113) (by exact func113) c113 r113 (n := 118) (by rfl) (rv := [.cell 4 35, .tmp 5]) (by rfl) (by simp) ?_
  unfold m113
  try simp only [wQ]
  simp only [ghAll, ghAt]
  simp only [stD]
  repeat' (first | (simp only [Off.s_noOwn, Off.s_isV, onC_true, ↓wA, ↓wC, wB, frzBE, frzBS, reduceEqDiff, reduceAdd, reduceSub, reduceIte, reduceCtorEq, Nat.reduceBEq, reduceLT, sz35]) | ((first | apply execG_split | apply execC_split | apply onPick_split) <;> intro h <;> try simp only [h]))
  refine exec_gh1 (frzB 0 rfl) ?_
  simp only [frzBE, frzBS, Off.s_unown, ↓wA, ↓wC, wB, frzBE, frzBS, reduceEqDiff, reduceAdd, reduceSub, reduceIte, reduceCtorEq, Nat.reduceBEq, reduceLT, sz35]
  refine exec_gh1 (frzB 1 rfl) ?_
  simp only [frzBE, frzBS, D.unown, ↓wA, ↓wC, wB, frzBE, frzBS, reduceEqDiff, reduceAdd, reduceSub, reduceIte, reduceCtorEq, Nat.reduceBEq, reduceLT, sz35]
  have hf0 : ∀ K : SV → Prop, stepFa 0 0 (.d (.ptr o.s)) K = K (.d (.ptr (.int .i64 o.day))) := fun K => by simp [Off.s, offP, stepFa, D.pre, D.nth, D.size]
  have hf1 : ∀ K : SV → Prop, stepFa 1 1 (.d (.ptr o.s)) K = K (.d (.ptr (.sl false 4 (dl Cs.s o.cs)))) := fun K => by simp [Off.s, offP, stepFa, D.pre, D.nth, D.size]
  cases hd : decide (20000 - o.day < v) with
  | true =>
    have hM : makeO o 2 id a v = none := by unfold makeO; rw [if_neg (by decide), if_pos rfl, if_pos (of_decide_eq_true hd)]
    repeat' (first | (simp only [hk1, hk2, hk3, hk4, hk5, Off.s_noOwn, Off.s_isV, Off.s_size, Off.w, offP, css_noOwn, strs_noOwn, hf0, hf1, hd, ↓rd_off, onC_true, isStB_st, Int.toNat_natCast, Option.map_some, dl_len, dl_nth, ↓wA, ↓wC, wB, frzBE, frzBS, reduceEqDiff, reduceAdd, reduceSub, reduceIte, reduceCtorEq, Nat.reduceBEq, reduceLT, sz35]) | (refine onJ_q ?_) | (with_reducible refine And.intro ?_ ?_) | (refine call_det hO (by simp [argsD, argD, Off.s_unown]) rfl ?_) | (refine call_det hF (by simp [argsD, argD, Off.s_unown]) rfl ?_) | (with_reducible refine onI_bare ?_ ?_; focus (simp only [InR]; omega)) | ((first | apply execG_split | apply execC_split | apply onPick_split) <;> intro h <;> try simp only [h]))
    all_goals exact mkR_no o hM rfl
  | false =>
    have hM : makeO o 2 id a v = some { o with cs := enterC ⟨id, a, o.day + v, []⟩ o.cs } := by unfold makeO; rw [if_neg (by decide), if_pos rfl, if_neg (of_decide_eq_false hd)]
    have hG := l25Good_fn _ (make_ok0 ho hM)
    have hd' := of_decide_eq_false hd
    have hE := l25Enter_fn o 2 id a v ho0 (by simp only [InR]; omega)
    simp only [stD] at hE
    have hu : (D.st (.cons (.int .i64 o.day) (.cons (.sl true 4 (dl Cs.s (enterC ⟨id, a, o.day + v, []⟩ o.cs))) (.cons (.int .i64 o.kept) (.cons (.int .i64 o.moved) (.cons (.sl true 1 (dl D.str o.led)) .nil)))))).unown = Off.s { o with cs := enterC ⟨id, a, o.day + v, []⟩ o.cs } := Off.w_unown { o with cs := enterC ⟨id, a, o.day + v, []⟩ o.cs }
    repeat' (first | (simp only [hk1, hk2, hk3, hk4, hk5, Off.s_noOwn, Off.s_isV, Off.s_size, Off.w, offP, css_noOwn, strs_noOwn, hf0, hf1, hd, ↓rd_off, onC_true, isStB_st, Int.toNat_natCast, Option.map_some, dl_len, dl_nth, ↓wA, ↓wC, wB, frzBE, frzBS, reduceEqDiff, reduceAdd, reduceSub, reduceIte, reduceCtorEq, Nat.reduceBEq, reduceLT, sz35]) | (refine onJ_q ?_) | (with_reducible refine And.intro ?_ ?_) | (refine call_det hO (by simp [argsD, argD, Off.s_unown]) rfl ?_) | (refine call_det hF (by simp [argsD, argD, Off.s_unown]) rfl ?_) | (with_reducible refine onI_bare ?_ ?_; focus (simp only [InR]; omega)) | (refine call_det hE (by simp [argsD, argD, Off.s_unown, D.unown]) rfl ?_) | (refine call_det hG (congrArg (fun d : D => some [d]) hu) rfl ?_) | (refine callP_det hG (congrArg (fun d : D => some [d]) hu) rfl ?_) | ((first | apply execG_split | apply execC_split | apply onPick_split) <;> intro h <;> try simp only [h]))
    all_goals exact mkR_yes hM rfl rfl
theorem make4_fn (o : Off) (id a v : Int) (ho : offOK o = true) (hs : stepB o 4 id a v = true) : Fn prog 113 [o.s, stD 4 id a v] (MkR o 4 id a v) := by
  have hk1 : decide ((4 : Int) = 1) = false := rfl
  have hk2 : decide ((4 : Int) = 2) = false := rfl
  have hk3 : decide ((4 : Int) = 3) = false := rfl
  have hk4 : decide ((4 : Int) = 4) = true := rfl
  have hk5 : decide ((4 : Int) = 5) = false := rfl
  have hp := off_parts ho
  have ho0 := off_ok0 ho
  have hO := l25Own_fn o ho0
  have hF := l25Find_fn o id ho0
  have hE := l25Release_fn o v ho0
  have hd : True := trivial
  cases hc : hasC v o.cs with
  | true =>
    have hM : makeO o 4 id a v = some { o with cs := o.cs.map (relC v) } := by unfold makeO; rw [if_neg (by decide), if_neg (by decide), if_pos rfl, if_pos hc]
    have hG := l25Good_fn _ (make_ok0 ho hM)
    have hu : (D.st (.cons (.int .i64 o.day) (.cons (.sl true 4 (dl Cs.s (o.cs.map (relC v)))) (.cons (.int .i64 o.kept) (.cons (.int .i64 o.moved) (.cons (.sl true 1 (dl D.str o.led)) .nil)))))).unown = Off.s { o with cs := o.cs.map (relC v) } := Off.w_unown { o with cs := o.cs.map (relC v) }
    rw [hc] at hE
    refine Fn_ofg (ps := [[1, 0], [1, 0]]) (fn := f113) (by exact func113) c113 r113 (n := 118) (by rfl) (rv := [.cell 4 35, .tmp 5]) (by rfl) (by simp) ?_
    unfold m113
    try simp only [wQ]
    simp only [ghAll, ghAt]
    simp only [stD]
    repeat' (first | (simp only [Off.s_noOwn, Off.s_isV, onC_true, ↓wA, ↓wC, wB, frzBE, frzBS, reduceEqDiff, reduceAdd, reduceSub, reduceIte, reduceCtorEq, Nat.reduceBEq, reduceLT, sz35]) | ((first | apply execG_split | apply execC_split | apply onPick_split) <;> intro h <;> try simp only [h]))
    refine exec_gh1 (frzB 0 rfl) ?_
    simp only [frzBE, frzBS, Off.s_unown, ↓wA, ↓wC, wB, frzBE, frzBS, reduceEqDiff, reduceAdd, reduceSub, reduceIte, reduceCtorEq, Nat.reduceBEq, reduceLT, sz35]
    refine exec_gh1 (frzB 1 rfl) ?_
    simp only [frzBE, frzBS, D.unown, ↓wA, ↓wC, wB, frzBE, frzBS, reduceEqDiff, reduceAdd, reduceSub, reduceIte, reduceCtorEq, Nat.reduceBEq, reduceLT, sz35]
    have hf0 : ∀ K : SV → Prop, stepFa 0 0 (.d (.ptr o.s)) K = K (.d (.ptr (.int .i64 o.day))) := fun K => by simp [Off.s, offP, stepFa, D.pre, D.nth, D.size]
    have hf1 : ∀ K : SV → Prop, stepFa 1 1 (.d (.ptr o.s)) K = K (.d (.ptr (.sl false 4 (dl Cs.s o.cs)))) := fun K => by simp [Off.s, offP, stepFa, D.pre, D.nth, D.size]
    repeat' (first | (simp only [hk1, hk2, hk3, hk4, hk5, Off.s_noOwn, Off.s_isV, Off.s_size, Off.w, offP, css_noOwn, strs_noOwn, hf0, hf1, hd, ↓rd_off, onC_true, isStB_st, Int.toNat_natCast, Option.map_some, dl_len, dl_nth, ↓wA, ↓wC, wB, frzBE, frzBS, reduceEqDiff, reduceAdd, reduceSub, reduceIte, reduceCtorEq, Nat.reduceBEq, reduceLT, sz35]) | (refine onJ_q ?_) | (with_reducible refine And.intro ?_ ?_) | (refine call_det hO (by simp [argsD, argD, Off.s_unown]) rfl ?_) | (refine call_det hF (by simp [argsD, argD, Off.s_unown]) rfl ?_) | (with_reducible refine onI_bare ?_ ?_; focus (simp only [InR]; omega)) | (refine call_det hE (by simp [argsD, argD, Off.s_unown]) rfl ?_) | (refine call_det hG (congrArg (fun d : D => some [d]) hu) rfl ?_) | (refine callP_det hG (congrArg (fun d : D => some [d]) hu) rfl ?_) | ((first | apply execG_split | apply execC_split | apply onPick_split) <;> intro h <;> try simp only [h]))
    all_goals exact mkR_yes hM rfl rfl
  | false =>
    have hM : makeO o 4 id a v = none := by unfold makeO; rw [if_neg (by decide), if_neg (by decide), if_pos rfl, if_neg (by rw [hc]; decide)]
    rw [hc] at hE
    refine Fn_ofg (ps := [[1, 0], [1, 0]]) (fn := f113) (by exact func113) c113 r113 (n := 118) (by rfl) (rv := [.cell 4 35, .tmp 5]) (by rfl) (by simp) ?_
    unfold m113
    try simp only [wQ]
    simp only [ghAll, ghAt]
    simp only [stD]
    repeat' (first | (simp only [Off.s_noOwn, Off.s_isV, onC_true, ↓wA, ↓wC, wB, frzBE, frzBS, reduceEqDiff, reduceAdd, reduceSub, reduceIte, reduceCtorEq, Nat.reduceBEq, reduceLT, sz35]) | ((first | apply execG_split | apply execC_split | apply onPick_split) <;> intro h <;> try simp only [h]))
    refine exec_gh1 (frzB 0 rfl) ?_
    simp only [frzBE, frzBS, Off.s_unown, ↓wA, ↓wC, wB, frzBE, frzBS, reduceEqDiff, reduceAdd, reduceSub, reduceIte, reduceCtorEq, Nat.reduceBEq, reduceLT, sz35]
    refine exec_gh1 (frzB 1 rfl) ?_
    simp only [frzBE, frzBS, D.unown, ↓wA, ↓wC, wB, frzBE, frzBS, reduceEqDiff, reduceAdd, reduceSub, reduceIte, reduceCtorEq, Nat.reduceBEq, reduceLT, sz35]
    have hf0 : ∀ K : SV → Prop, stepFa 0 0 (.d (.ptr o.s)) K = K (.d (.ptr (.int .i64 o.day))) := fun K => by simp [Off.s, offP, stepFa, D.pre, D.nth, D.size]
    have hf1 : ∀ K : SV → Prop, stepFa 1 1 (.d (.ptr o.s)) K = K (.d (.ptr (.sl false 4 (dl Cs.s o.cs)))) := fun K => by simp [Off.s, offP, stepFa, D.pre, D.nth, D.size]
    repeat' (first | (simp only [hk1, hk2, hk3, hk4, hk5, Off.s_noOwn, Off.s_isV, Off.s_size, Off.w, offP, css_noOwn, strs_noOwn, hf0, hf1, hd, ↓rd_off, onC_true, isStB_st, Int.toNat_natCast, Option.map_some, dl_len, dl_nth, ↓wA, ↓wC, wB, frzBE, frzBS, reduceEqDiff, reduceAdd, reduceSub, reduceIte, reduceCtorEq, Nat.reduceBEq, reduceLT, sz35]) | (refine onJ_q ?_) | (with_reducible refine And.intro ?_ ?_) | (refine call_det hO (by simp [argsD, argD, Off.s_unown]) rfl ?_) | (refine call_det hF (by simp [argsD, argD, Off.s_unown]) rfl ?_) | (with_reducible refine onI_bare ?_ ?_; focus (simp only [InR]; omega)) | (refine call_det hE (by simp [argsD, argD, Off.s_unown]) rfl ?_) | ((first | apply execG_split | apply execC_split | apply onPick_split) <;> intro h <;> try simp only [h]))
    all_goals exact mkR_no { o with cs := o.cs.map (relC v) } hM rfl
theorem findC_pos {o : Off} {id : Int} (h : decide (0 ≤ findC o.cs id) = true) : ∃ (i : Nat) (x : Cs), findC o.cs id = (i : Int) ∧ o.cs[i]? = some x := by
  rcases find_casesC o.cs id with ⟨_, hn⟩ | ⟨i, x, hi, hr, _⟩
  · rw [hn] at h; cases h
  · exact ⟨i, x, hi, hr⟩
theorem make6_fn (o : Off) (id a v : Int) (ho : offOK o = true) (hs : stepB o 6 id a v = true) : Fn prog 113 [o.s, stD 6 id a v] (MkR o 6 id a v) := by
  have hk1 : decide ((6 : Int) = 1) = false := rfl
  have hk2 : decide ((6 : Int) = 2) = false := rfl
  have hk3 : decide ((6 : Int) = 3) = false := rfl
  have hk4 : decide ((6 : Int) = 4) = false := rfl
  have hk5 : decide ((6 : Int) = 5) = false := rfl
  have hp := off_parts ho
  have ho0 := off_ok0 ho
  have hO := l25Own_fn o ho0
  have hF := l25Find_fn o id ho0
  have hd : True := trivial
  obtain ⟨i, x, hi, hr⟩ := findC_pos (o := o) (id := id) (by simp [stepB] at hs; exact decide_eq_true hs.1.1)
  have hE := l25Act_fn o i x ho hr
  rw [hi] at hF
  have hM0 : makeO o 6 id a v = if dealB o x = true then some (outO o i x) else none := by
    unfold makeO
    rw [if_neg (by decide), if_neg (by decide), if_neg (by decide), hi, Int.toNat_natCast, hr]
    simp
  have hwu := Off.w_unown (outO o i x)
  have hwV : ∀ q : Off, q.w.isV = true := fun _ => rfl
  have hwS : ∀ q : Off, q.w.size = 5 := fun _ => rfl
  have hwN := Off.w_noOwn
  have hwB : ∀ q : Off, q.w.isStB = true := fun _ => rfl
  generalize hq : outO o i x = q at hE hM0 hwu
  cases hc : dealB o x with
  | true =>
    have hM : makeO o 6 id a v = some q := by rw [hM0, if_pos hc]
    have hG := l25Good_fn _ (make_ok0 ho hM)
    rw [hc, Bool.true_and] at hE
    cases hk : offOK q with
    | true =>
      rw [hk] at hE hG
      refine Fn_ofg (ps := [[1, 0], [1, 0]]) (fn := f113) (by exact func113) c113 r113 (n := 118) (by rfl) (rv := [.cell 4 35, .tmp 5]) (by rfl) (by simp) ?_
      unfold m113
      try simp only [wQ]
      simp only [ghAll, ghAt]
      simp only [stD]
      repeat' (first | (simp only [Off.s_noOwn, Off.s_isV, onC_true, ↓wA, ↓wC, wB, frzBE, frzBS, reduceEqDiff, reduceAdd, reduceSub, reduceIte, reduceCtorEq, Nat.reduceBEq, reduceLT, sz35]) | ((first | apply execG_split | apply execC_split | apply onPick_split) <;> intro h <;> try simp only [h]))
      refine exec_gh1 (frzB 0 rfl) ?_
      simp only [frzBE, frzBS, Off.s_unown, ↓wA, ↓wC, wB, frzBE, frzBS, reduceEqDiff, reduceAdd, reduceSub, reduceIte, reduceCtorEq, Nat.reduceBEq, reduceLT, sz35]
      refine exec_gh1 (frzB 1 rfl) ?_
      simp only [frzBE, frzBS, D.unown, ↓wA, ↓wC, wB, frzBE, frzBS, reduceEqDiff, reduceAdd, reduceSub, reduceIte, reduceCtorEq, Nat.reduceBEq, reduceLT, sz35]
      have hf0 : ∀ K : SV → Prop, stepFa 0 0 (.d (.ptr o.s)) K = K (.d (.ptr (.int .i64 o.day))) := fun K => by simp [Off.s, offP, stepFa, D.pre, D.nth, D.size]
      have hf1 : ∀ K : SV → Prop, stepFa 1 1 (.d (.ptr o.s)) K = K (.d (.ptr (.sl false 4 (dl Cs.s o.cs)))) := fun K => by simp [Off.s, offP, stepFa, D.pre, D.nth, D.size]
      repeat' (first | (simp only [hwV, hwS, hwN, hwB, hk1, hk2, hk3, hk4, hk5, Off.s_noOwn, Off.s_isV, Off.s_size, css_noOwn, strs_noOwn, hf0, hf1, hd, ↓rd_off, onC_true, isStB_st, Int.toNat_natCast, Option.map_some, dl_len, dl_nth, ↓wA, ↓wC, wB, frzBE, frzBS, reduceEqDiff, reduceAdd, reduceSub, reduceIte, reduceCtorEq, Nat.reduceBEq, reduceLT, sz35]) | (refine onJ_q ?_) | (with_reducible refine And.intro ?_ ?_) | (refine call_det hO (by simp [argsD, argD, Off.s_unown]) rfl ?_) | (refine call_det hF (by simp [argsD, argD, Off.s_unown]) rfl ?_) | (with_reducible refine onI_bare ?_ ?_; focus (simp only [InR]; omega)) | (refine call_det hE (by simp [argsD, argD, Off.s_unown]) rfl ?_) | (refine call_det hG (congrArg (fun d : D => some [d]) hwu) rfl ?_) | (refine callP_det hG (congrArg (fun d : D => some [d]) hwu) rfl ?_) | ((first | apply execG_split | apply execC_split | apply onPick_split) <;> intro h <;> try simp only [h]))
      all_goals exact onO_i _ rfl (onC_i rfl (onC_i rfl (onC_i rfl (mkR_yes hM rfl hk.symm))))
    | false =>
      rw [hk] at hE hG
      refine Fn_ofg (ps := [[1, 0], [1, 0]]) (fn := f113) (by exact func113) c113 r113 (n := 118) (by rfl) (rv := [.cell 4 35, .tmp 5]) (by rfl) (by simp) ?_
      unfold m113
      try simp only [wQ]
      simp only [ghAll, ghAt]
      simp only [stD]
      repeat' (first | (simp only [Off.s_noOwn, Off.s_isV, onC_true, ↓wA, ↓wC, wB, frzBE, frzBS, reduceEqDiff, reduceAdd, reduceSub, reduceIte, reduceCtorEq, Nat.reduceBEq, reduceLT, sz35]) | ((first | apply execG_split | apply execC_split | apply onPick_split) <;> intro h <;> try simp only [h]))
      refine exec_gh1 (frzB 0 rfl) ?_
      simp only [frzBE, frzBS, Off.s_unown, ↓wA, ↓wC, wB, frzBE, frzBS, reduceEqDiff, reduceAdd, reduceSub, reduceIte, reduceCtorEq, Nat.reduceBEq, reduceLT, sz35]
      refine exec_gh1 (frzB 1 rfl) ?_
      simp only [frzBE, frzBS, D.unown, ↓wA, ↓wC, wB, frzBE, frzBS, reduceEqDiff, reduceAdd, reduceSub, reduceIte, reduceCtorEq, Nat.reduceBEq, reduceLT, sz35]
      have hf0 : ∀ K : SV → Prop, stepFa 0 0 (.d (.ptr o.s)) K = K (.d (.ptr (.int .i64 o.day))) := fun K => by simp [Off.s, offP, stepFa, D.pre, D.nth, D.size]
      have hf1 : ∀ K : SV → Prop, stepFa 1 1 (.d (.ptr o.s)) K = K (.d (.ptr (.sl false 4 (dl Cs.s o.cs)))) := fun K => by simp [Off.s, offP, stepFa, D.pre, D.nth, D.size]
      repeat' (first | (simp only [hwV, hwS, hwN, hwB, hk1, hk2, hk3, hk4, hk5, Off.s_noOwn, Off.s_isV, Off.s_size, css_noOwn, strs_noOwn, hf0, hf1, hd, ↓rd_off, onC_true, isStB_st, Int.toNat_natCast, Option.map_some, dl_len, dl_nth, ↓wA, ↓wC, wB, frzBE, frzBS, reduceEqDiff, reduceAdd, reduceSub, reduceIte, reduceCtorEq, Nat.reduceBEq, reduceLT, sz35]) | (refine onJ_q ?_) | (with_reducible refine And.intro ?_ ?_) | (refine call_det hO (by simp [argsD, argD, Off.s_unown]) rfl ?_) | (refine call_det hF (by simp [argsD, argD, Off.s_unown]) rfl ?_) | (with_reducible refine onI_bare ?_ ?_; focus (simp only [InR]; omega)) | (refine call_det hE (by simp [argsD, argD, Off.s_unown]) rfl ?_) | ((first | apply execG_split | apply execC_split | apply onPick_split) <;> intro h <;> try simp only [h]))
      all_goals exact onO_i _ rfl (onC_i rfl (onC_i rfl (onC_i rfl (mkR_yes hM rfl hk.symm))))
  | false =>
    have hM : makeO o 6 id a v = none := by rw [hM0, if_neg (by rw [hc]; decide)]
    rw [hc, Bool.false_and] at hE
    refine Fn_ofg (ps := [[1, 0], [1, 0]]) (fn := f113) (by exact func113) c113 r113 (n := 118) (by rfl) (rv := [.cell 4 35, .tmp 5]) (by rfl) (by simp) ?_
    unfold m113
    try simp only [wQ]
    simp only [ghAll, ghAt]
    simp only [stD]
    repeat' (first | (simp only [Off.s_noOwn, Off.s_isV, onC_true, ↓wA, ↓wC, wB, frzBE, frzBS, reduceEqDiff, reduceAdd, reduceSub, reduceIte, reduceCtorEq, Nat.reduceBEq, reduceLT, sz35]) | ((first | apply execG_split | apply execC_split | apply onPick_split) <;> intro h <;> try simp only [h]))
    refine exec_gh1 (frzB 0 rfl) ?_
    simp only [frzBE, frzBS, Off.s_unown, ↓wA, ↓wC, wB, frzBE, frzBS, reduceEqDiff, reduceAdd, reduceSub, reduceIte, reduceCtorEq, Nat.reduceBEq, reduceLT, sz35]
    refine exec_gh1 (frzB 1 rfl) ?_
    simp only [frzBE, frzBS, D.unown, ↓wA, ↓wC, wB, frzBE, frzBS, reduceEqDiff, reduceAdd, reduceSub, reduceIte, reduceCtorEq, Nat.reduceBEq, reduceLT, sz35]
    have hf0 : ∀ K : SV → Prop, stepFa 0 0 (.d (.ptr o.s)) K = K (.d (.ptr (.int .i64 o.day))) := fun K => by simp [Off.s, offP, stepFa, D.pre, D.nth, D.size]
    have hf1 : ∀ K : SV → Prop, stepFa 1 1 (.d (.ptr o.s)) K = K (.d (.ptr (.sl false 4 (dl Cs.s o.cs)))) := fun K => by simp [Off.s, offP, stepFa, D.pre, D.nth, D.size]
    repeat' (first | (simp only [hwV, hwS, hwN, hwB, hk1, hk2, hk3, hk4, hk5, Off.s_noOwn, Off.s_isV, Off.s_size, css_noOwn, strs_noOwn, hf0, hf1, hd, ↓rd_off, onC_true, isStB_st, Int.toNat_natCast, Option.map_some, dl_len, dl_nth, ↓wA, ↓wC, wB, frzBE, frzBS, reduceEqDiff, reduceAdd, reduceSub, reduceIte, reduceCtorEq, Nat.reduceBEq, reduceLT, sz35]) | (refine onJ_q ?_) | (with_reducible refine And.intro ?_ ?_) | (refine call_det hO (by simp [argsD, argD, Off.s_unown]) rfl ?_) | (refine call_det hF (by simp [argsD, argD, Off.s_unown]) rfl ?_) | (with_reducible refine onI_bare ?_ ?_; focus (simp only [InR]; omega)) | (refine call_det hE (by simp [argsD, argD, Off.s_unown]) rfl ?_) | ((first | apply execG_split | apply execC_split | apply onPick_split) <;> intro h <;> try simp only [h]))
    all_goals exact onO_i _ rfl (onC_i rfl (onC_i rfl (onC_i rfl (mkR_no q hM rfl))))
theorem make3_fn (o : Off) (id a v : Int) (ho : offOK o = true) (hs : stepB o 3 id a v = true) : Fn prog 113 [o.s, stD 3 id a v] (MkR o 3 id a v) := by
  have hk1 : decide ((3 : Int) = 1) = false := rfl
  have hk2 : decide ((3 : Int) = 2) = false := rfl
  have hk3 : decide ((3 : Int) = 3) = true := rfl
  have hk4 : decide ((3 : Int) = 4) = false := rfl
  have hk5 : decide ((3 : Int) = 5) = false := rfl
  have hp := off_parts ho
  have ho0 := off_ok0 ho
  have hO := l25Own_fn o ho0
  have hF := l25Find_fn o id ho0
  have hd : True := trivial
  obtain ⟨i, x, hi, hr⟩ := findC_pos (o := o) (id := id) (by simp [stepB] at hs; exact decide_eq_true hs.1.1)
  have hxc := case_parts (hp.2.2.2.2.2.2.2.2.2 x (List.mem_of_getElem? hr))
  have hH := l1Has_fn x.h v (by omega)
  have hi0 : (0 : Int) ≤ (i : Int) := by omega
  rw [hi] at hF
  have hM0 : makeO o 3 id a v = if x.h.contains v = true then none else some { o with cs := o.cs.set i { x with h := putI v x.h } } := by
    unfold makeO
    rw [if_neg (by decide), if_neg (by decide), if_neg (by decide), hi, Int.toNat_natCast, hr]
    simp
  have hgn : (dl Cs.s o.cs).nth i = some (x.p (.sl false 1 (dl iD x.h))) := by rw [dl_nth, hr]; rfl
  have hgs : ∀ (y : D), ((dl Cs.s o.cs).setN i y).nth i = some y := fun y => by rw [setN_nth, if_pos rfl, hgn]; rfl
  have hfx : ∀ K : SV → Prop, stepFa 3 3 (.d (.ptr x.s)) K = K (.d (.ptr (.sl false 1 (dl iD x.h)))) := fun K => fa_cs3
  cases hc : x.h.contains v with
  | true =>
    rw [hc] at hH
    have hM : makeO o 3 id a v = none := by rw [hM0, if_pos hc]
    refine Fn_ofg (ps := [[1, 0], [1, 0]]) (fn := f113) (by exact func113) c113 r113 (n := 118) (by rfl) (rv := [.cell 4 35, .tmp 5]) (by rfl) (by simp) ?_
    unfold m113
    try simp only [wQ]
    simp only [ghAll, ghAt]
    simp only [stD]
    repeat' (first | (simp only [Off.s_noOwn, Off.s_isV, onC_true, ↓wA, ↓wC, wB, frzBE, frzBS, reduceEqDiff, reduceAdd, reduceSub, reduceIte, reduceCtorEq, Nat.reduceBEq, reduceLT, sz35]) | ((first | apply execG_split | apply execC_split | apply onPick_split) <;> intro h <;> try simp only [h]))
    refine exec_gh1 (frzB 0 rfl) ?_
    simp only [frzBE, frzBS, Off.s_unown, ↓wA, ↓wC, wB, frzBE, frzBS, reduceEqDiff, reduceAdd, reduceSub, reduceIte, reduceCtorEq, Nat.reduceBEq, reduceLT, sz35]
    refine exec_gh1 (frzB 1 rfl) ?_
    simp only [frzBE, frzBS, D.unown, ↓wA, ↓wC, wB, frzBE, frzBS, reduceEqDiff, reduceAdd, reduceSub, reduceIte, reduceCtorEq, Nat.reduceBEq, reduceLT, sz35]
    have hf0 : ∀ K : SV → Prop, stepFa 0 0 (.d (.ptr o.s)) K = K (.d (.ptr (.int .i64 o.day))) := fun K => by simp [Off.s, offP, stepFa, D.pre, D.nth, D.size]
    have hf1 : ∀ K : SV → Prop, stepFa 1 1 (.d (.ptr o.s)) K = K (.d (.ptr (.sl false 4 (dl Cs.s o.cs)))) := fun K => by simp [Off.s, offP, stepFa, D.pre, D.nth, D.size]
    repeat' (first | (simp only [hk1, hk2, hk3, hk4, hk5, Off.s_noOwn, Off.s_isV, Off.s_size, Off.w, offP, css_noOwn, strs_noOwn, hf0, hf1, hd, ↓rd_off, onC_true, isStB_st, Int.toNat_natCast, Option.map_some, dl_len, dl_nth, hi0, hr, hfx, ints_noOwn, ↓wA, ↓wC, wB, frzBE, frzBS, reduceEqDiff, reduceAdd, reduceSub, reduceIte, reduceCtorEq, Nat.reduceBEq, reduceLT, sz35]) | (refine onJ_q ?_) | (with_reducible refine And.intro ?_ ?_) | (refine call_det hO (by simp [argsD, argD, Off.s_unown]) rfl ?_) | (refine call_det hF (by simp [argsD, argD, Off.s_unown]) rfl ?_) | (with_reducible refine onI_bare ?_ ?_; focus (simp only [InR]; omega)) | (refine call_det (hH) rfl rfl ?_) | (refine callP_det (hH) rfl rfl ?_) | ((first | apply execG_split | apply execC_split | apply onPick_split) <;> intro h <;> try simp only [h]))
    all_goals exact mkR_no o hM rfl
  | false =>
    rw [hc] at hH
    have hM : makeO o 3 id a v = some { o with cs := o.cs.set i { x with h := putI v x.h } } := by rw [hM0, if_neg (by rw [hc]; decide)]
    have hG := l25Good_fn _ (make_ok0 ho hM)
    have hnv : v ∉ x.h := fun h => by rw [List.contains_iff_mem.2 h] at hc; cases hc
    have hP : Fn prog 179 [.sl false 1 (dl iD x.h), .int .i64 v] (fun rs => rs = [.sl false 1 (dl iD (putI v x.h))]) := by
      simpa [D.unown, ints_unown] using Fn_unown (l1Put_fn x.h v (by omega) hnv)
    have hset : (dl Cs.s o.cs).setN i (x.p (.sl false 1 (dl iD (putI v x.h)))) = dl Cs.s (o.cs.set i { x with h := putI v x.h }) := by
      have e : x.p (.sl false 1 (dl iD (putI v x.h))) = Cs.s { x with h := putI v x.h } := rfl
      rw [e, dl_setN]
    have hu : (D.st (.cons (.int .i64 o.day) (.cons (.sl true 4 (dl Cs.s (o.cs.set i { x with h := putI v x.h }))) (.cons (.int .i64 o.kept) (.cons (.int .i64 o.moved) (.cons (.sl true 1 (dl D.str o.led)) .nil)))))).unown = Off.s { o with cs := o.cs.set i { x with h := putI v x.h } } := Off.w_unown { o with cs := o.cs.set i { x with h := putI v x.h } }
    refine Fn_ofg (ps := [[1, 1, 1, 0, 1, 0, 1, 1, 1, 1, 1, 0, 1], [1, 1, 1, 1, 0], [1, 0], [1, 0]]) (fn := f113) (by exact func113) c113 r113 (n := 118) (by rfl) (rv := [.cell 4 35, .tmp 5]) (by rfl) (by simp) ?_
    unfold m113
    try simp only [wQ]
    simp only [ghAll, ghAt]
    simp only [stD]
    repeat' (first | (simp only [Off.s_noOwn, Off.s_isV, onC_true, ↓wA, ↓wC, wB, frzBE, frzBS, reduceEqDiff, reduceAdd, reduceSub, reduceIte, reduceCtorEq, Nat.reduceBEq, reduceLT, sz35]) | ((first | apply execG_split | apply execC_split | apply onPick_split) <;> intro h <;> try simp only [h]))
    refine exec_gh1 (frzB 0 rfl) ?_
    simp only [frzBE, frzBS, Off.s_unown, ↓wA, ↓wC, wB, frzBE, frzBS, reduceEqDiff, reduceAdd, reduceSub, reduceIte, reduceCtorEq, Nat.reduceBEq, reduceLT, sz35]
    refine exec_gh1 (frzB 1 rfl) ?_
    simp only [frzBE, frzBS, D.unown, ↓wA, ↓wC, wB, frzBE, frzBS, reduceEqDiff, reduceAdd, reduceSub, reduceIte, reduceCtorEq, Nat.reduceBEq, reduceLT, sz35]
    have hf0 : ∀ K : SV → Prop, stepFa 0 0 (.d (.ptr o.s)) K = K (.d (.ptr (.int .i64 o.day))) := fun K => by simp [Off.s, offP, stepFa, D.pre, D.nth, D.size]
    have hf1 : ∀ K : SV → Prop, stepFa 1 1 (.d (.ptr o.s)) K = K (.d (.ptr (.sl false 4 (dl Cs.s o.cs)))) := fun K => by simp [Off.s, offP, stepFa, D.pre, D.nth, D.size]
    repeat' (first | (simp only [hk1, hk2, hk3, hk4, hk5, Off.s_noOwn, Off.s_isV, Off.s_size, Off.w, offP, css_noOwn, strs_noOwn, hf0, hf1, hd, ↓rd_off, onC_true, isStB_st, Int.toNat_natCast, Option.map_some, dl_len, dl_nth, hi0, hr, hfx, ints_noOwn, ↓wA, ↓wC, wB, frzBE, frzBS, reduceEqDiff, reduceAdd, reduceSub, reduceIte, reduceCtorEq, Nat.reduceBEq, reduceLT, sz35]) | (refine onJ_q ?_) | (with_reducible refine And.intro ?_ ?_) | (refine call_det hO (by simp [argsD, argD, Off.s_unown]) rfl ?_) | (refine call_det hF (by simp [argsD, argD, Off.s_unown]) rfl ?_) | (with_reducible refine onI_bare ?_ ?_; focus (simp only [InR]; omega)) | (refine call_det (hH) rfl rfl ?_) | (refine callP_det (hH) rfl rfl ?_) | ((first | apply execG_split | apply execC_split | apply onPick_split) <;> intro h <;> try simp only [h]))
    refine exec_gh _ (unlink 4 none [1] (es := 4) (xs := dl Cs.s o.cs) rfl rfl) fun v1 => ?_
    simp only [obSet, ↓wA, ↓wC, wB, frzBE, frzBS, reduceEqDiff, reduceAdd, reduceSub, reduceIte, reduceCtorEq, Nat.reduceBEq, reduceLT, sz35]
    repeat' (first | (simp only [hk1, hk2, hk3, hk4, hk5, Off.s_noOwn, Off.s_isV, Off.s_size, Off.w, offP, css_noOwn, strs_noOwn, hf0, hf1, hd, ↓rd_off, onC_true, isStB_st, Int.toNat_natCast, Option.map_some, dl_len, hi0, hgn, hgs, ints_noOwn, doff_q3, dget_q3, dset_q3, hset, ↓wA, ↓wC, wB, frzBE, frzBS, reduceEqDiff, reduceAdd, reduceSub, reduceIte, reduceCtorEq, Nat.reduceBEq, reduceLT, sz35]) | (refine onJ_q ?_) | (with_reducible refine And.intro ?_ ?_) | (refine call_det hO (by simp [argsD, argD, Off.s_unown]) rfl ?_) | (refine call_det hF (by simp [argsD, argD, Off.s_unown]) rfl ?_) | (with_reducible refine onI_bare ?_ ?_; focus (simp only [InR]; omega)) | (refine call_det (hP) rfl rfl ?_) | (refine callP_det (hP) rfl rfl ?_) | ((first | apply execG_split | apply execC_split | apply onPick_split) <;> intro h <;> try simp only [h]))
    refine exec_gh1 (relink 4 6 5 none [1] rfl rfl rfl rfl (by decide) rfl) ?_
    simp only [obSet, ↓wA, ↓wC, wB, frzBE, frzBS, reduceEqDiff, reduceAdd, reduceSub, reduceIte, reduceCtorEq, Nat.reduceBEq, reduceLT, sz35]
    repeat' (first | (simp only [hk1, hk2, hk3, hk4, hk5, Off.s_noOwn, Off.s_isV, Off.s_size, Off.w, offP, css_noOwn, strs_noOwn, hf0, hf1, hd, ↓rd_off, onC_true, isStB_st, Int.toNat_natCast, Option.map_some, dl_len, ↓wA, ↓wC, wB, frzBE, frzBS, reduceEqDiff, reduceAdd, reduceSub, reduceIte, reduceCtorEq, Nat.reduceBEq, reduceLT, sz35]) | (refine onJ_q ?_) | (with_reducible refine And.intro ?_ ?_) | (refine call_det hO (by simp [argsD, argD, Off.s_unown]) rfl ?_) | (refine call_det hF (by simp [argsD, argD, Off.s_unown]) rfl ?_) | (with_reducible refine onI_bare ?_ ?_; focus (simp only [InR]; omega)) | (refine call_det hG (congrArg (fun d : D => some [d]) hu) rfl ?_) | (refine callP_det hG (congrArg (fun d : D => some [d]) hu) rfl ?_) | ((first | apply execG_split | apply execC_split | apply onPick_split) <;> intro h <;> try simp only [h]))
    all_goals exact mkR_yes hM rfl rfl
theorem make5_fn (o : Off) (id a v : Int) (ho : offOK o = true) (hs : stepB o 5 id a v = true) : Fn prog 113 [o.s, stD 5 id a v] (MkR o 5 id a v) := by
  have hk1 : decide ((5 : Int) = 1) = false := rfl
  have hk2 : decide ((5 : Int) = 2) = false := rfl
  have hk3 : decide ((5 : Int) = 3) = false := rfl
  have hk4 : decide ((5 : Int) = 4) = false := rfl
  have hk5 : decide ((5 : Int) = 5) = true := rfl
  have hp := off_parts ho
  have ho0 := off_ok0 ho
  have hO := l25Own_fn o ho0
  have hF := l25Find_fn o id ho0
  have hv : 1 ≤ v := by simp [stepB] at hs; exact hs.2
  obtain ⟨i, x, hi, hr⟩ := findC_pos (o := o) (id := id) (by simp [stepB] at hs; exact decide_eq_true hs.1.1)
  have hxc := case_parts (hp.2.2.2.2.2.2.2.2.2 x (List.mem_of_getElem? hr))
  have hi0 : (0 : Int) ≤ (i : Int) := by omega
  rw [hi] at hF
  have hM0 : makeO o 5 id a v = if v > 20000 - x.d then none else some { o with cs := o.cs.set i { x with d := x.d + v } } := by
    unfold makeO
    rw [if_neg (by decide), if_neg (by decide), if_neg (by decide), hi, Int.toNat_natCast, hr]
    simp
  have hgn : (dl Cs.s o.cs).nth i = some (x.p (.sl false 1 (dl iD x.h))) := by rw [dl_nth, hr]; rfl
  have hgs : ∀ (y : D), ((dl Cs.s o.cs).setN i y).nth i = some y := fun y => by rw [setN_nth, if_pos rfl, hgn]; rfl
  have hfx : ∀ K : SV → Prop, stepFa 2 2 (.d (.ptr x.s)) K = K (.d (.ptr (.int .i64 x.d))) := fun K => fa_cs2
  have hfx' : ∀ K : SV → Prop, stepFa 2 2 (.d (.ptr (x.p (.sl false 1 (dl iD x.h))))) K = K (.d (.ptr (.int .i64 x.d))) := fun K => fa_cs2
  cases hd : decide (20000 - x.d < v) with
  | true =>
    have hM : makeO o 5 id a v = none := by rw [hM0, if_pos (of_decide_eq_true hd)]
    refine Fn_ofg (ps := [[1, 0], [1, 0]]) (fn := f113) (by exact func113) c113 r113 (n := 118) (by rfl) (rv := [.cell 4 35, .tmp 5]) (by rfl) (by simp) ?_
    unfold m113
    try simp only [wQ]
    simp only [ghAll, ghAt]
    simp only [stD]
    repeat' (first | (simp only [Off.s_noOwn, Off.s_isV, onC_true, ↓wA, ↓wC, wB, frzBE, frzBS, reduceEqDiff, reduceAdd, reduceSub, reduceIte, reduceCtorEq, Nat.reduceBEq, reduceLT, sz35]) | ((first | apply execG_split | apply execC_split | apply onPick_split) <;> intro h <;> try simp only [h]))
    refine exec_gh1 (frzB 0 rfl) ?_
    simp only [frzBE, frzBS, Off.s_unown, ↓wA, ↓wC, wB, frzBE, frzBS, reduceEqDiff, reduceAdd, reduceSub, reduceIte, reduceCtorEq, Nat.reduceBEq, reduceLT, sz35]
    refine exec_gh1 (frzB 1 rfl) ?_
    simp only [frzBE, frzBS, D.unown, ↓wA, ↓wC, wB, frzBE, frzBS, reduceEqDiff, reduceAdd, reduceSub, reduceIte, reduceCtorEq, Nat.reduceBEq, reduceLT, sz35]
    have hf0 : ∀ K : SV → Prop, stepFa 0 0 (.d (.ptr o.s)) K = K (.d (.ptr (.int .i64 o.day))) := fun K => by simp [Off.s, offP, stepFa, D.pre, D.nth, D.size]
    have hf1 : ∀ K : SV → Prop, stepFa 1 1 (.d (.ptr o.s)) K = K (.d (.ptr (.sl false 4 (dl Cs.s o.cs)))) := fun K => by simp [Off.s, offP, stepFa, D.pre, D.nth, D.size]
    repeat' (first | (simp only [hk1, hk2, hk3, hk4, hk5, Off.s_noOwn, Off.s_isV, Off.s_size, Off.w, offP, css_noOwn, strs_noOwn, hf0, hf1, hd, ↓rd_off, onC_true, isStB_st, Int.toNat_natCast, Option.map_some, dl_len, dl_nth, hi0, hr, hfx, ints_noOwn, ↓wA, ↓wC, wB, frzBE, frzBS, reduceEqDiff, reduceAdd, reduceSub, reduceIte, reduceCtorEq, Nat.reduceBEq, reduceLT, sz35]) | (refine onJ_q ?_) | (with_reducible refine And.intro ?_ ?_) | (refine call_det hO (by simp [argsD, argD, Off.s_unown]) rfl ?_) | (refine call_det hF (by simp [argsD, argD, Off.s_unown]) rfl ?_) | (with_reducible refine onI_bare ?_ ?_; focus (simp only [InR]; omega)) | ((first | apply execG_split | apply execC_split | apply onPick_split) <;> intro h <;> try simp only [h]))
    all_goals exact mkR_no o hM rfl
  | false =>
    have hd' := of_decide_eq_false hd
    have hM : makeO o 5 id a v = some { o with cs := o.cs.set i { x with d := x.d + v } } := by rw [hM0, if_neg (of_decide_eq_false hd)]
    have hG := l25Good_fn _ (make_ok0 ho hM)
    have hset : (dl Cs.s o.cs).setN i (Cs.p { x with d := x.d + v } (.sl false 1 (dl iD x.h))) = dl Cs.s (o.cs.set i { x with d := x.d + v }) := by
      have e : Cs.p { x with d := x.d + v } (.sl false 1 (dl iD x.h)) = Cs.s { x with d := x.d + v } := rfl
      rw [e, dl_setN]
    have hu : (D.st (.cons (.int .i64 o.day) (.cons (.sl true 4 (dl Cs.s (o.cs.set i { x with d := x.d + v }))) (.cons (.int .i64 o.kept) (.cons (.int .i64 o.moved) (.cons (.sl true 1 (dl D.str o.led)) .nil)))))).unown = Off.s { o with cs := o.cs.set i { x with d := x.d + v } } := Off.w_unown { o with cs := o.cs.set i { x with d := x.d + v } }
    refine Fn_ofg (ps := [[1, 1, 1, 0, 1, 0, 1, 1, 1, 1, 1, 1, 1, 1, 1, 0, 1], [1, 1, 1, 1, 0], [1, 0], [1, 0]]) (fn := f113) (by exact func113) c113 r113 (n := 118) (by rfl) (rv := [.cell 4 35, .tmp 5]) (by rfl) (by simp) ?_
    unfold m113
    try simp only [wQ]
    simp only [ghAll, ghAt]
    simp only [stD]
    repeat' (first | (simp only [Off.s_noOwn, Off.s_isV, onC_true, ↓wA, ↓wC, wB, frzBE, frzBS, reduceEqDiff, reduceAdd, reduceSub, reduceIte, reduceCtorEq, Nat.reduceBEq, reduceLT, sz35]) | ((first | apply execG_split | apply execC_split | apply onPick_split) <;> intro h <;> try simp only [h]))
    refine exec_gh1 (frzB 0 rfl) ?_
    simp only [frzBE, frzBS, Off.s_unown, ↓wA, ↓wC, wB, frzBE, frzBS, reduceEqDiff, reduceAdd, reduceSub, reduceIte, reduceCtorEq, Nat.reduceBEq, reduceLT, sz35]
    refine exec_gh1 (frzB 1 rfl) ?_
    simp only [frzBE, frzBS, D.unown, ↓wA, ↓wC, wB, frzBE, frzBS, reduceEqDiff, reduceAdd, reduceSub, reduceIte, reduceCtorEq, Nat.reduceBEq, reduceLT, sz35]
    have hf0 : ∀ K : SV → Prop, stepFa 0 0 (.d (.ptr o.s)) K = K (.d (.ptr (.int .i64 o.day))) := fun K => by simp [Off.s, offP, stepFa, D.pre, D.nth, D.size]
    have hf1 : ∀ K : SV → Prop, stepFa 1 1 (.d (.ptr o.s)) K = K (.d (.ptr (.sl false 4 (dl Cs.s o.cs)))) := fun K => by simp [Off.s, offP, stepFa, D.pre, D.nth, D.size]
    repeat' (first | (simp only [hk1, hk2, hk3, hk4, hk5, Off.s_noOwn, Off.s_isV, Off.s_size, Off.w, offP, css_noOwn, strs_noOwn, hf0, hf1, hd, ↓rd_off, onC_true, isStB_st, Int.toNat_natCast, Option.map_some, dl_len, dl_nth, hi0, hr, hfx, ints_noOwn, ↓wA, ↓wC, wB, frzBE, frzBS, reduceEqDiff, reduceAdd, reduceSub, reduceIte, reduceCtorEq, Nat.reduceBEq, reduceLT, sz35]) | (refine onJ_q ?_) | (with_reducible refine And.intro ?_ ?_) | (refine call_det hO (by simp [argsD, argD, Off.s_unown]) rfl ?_) | (refine call_det hF (by simp [argsD, argD, Off.s_unown]) rfl ?_) | (with_reducible refine onI_bare ?_ ?_; focus (simp only [InR]; omega)) | ((first | apply execG_split | apply execC_split | apply onPick_split) <;> intro h <;> try simp only [h]))
    refine exec_gh _ (unlink 4 none [1] (es := 4) (xs := dl Cs.s o.cs) rfl rfl) fun v1 => ?_
    simp only [obSet, ↓wA, ↓wC, wB, frzBE, frzBS, reduceEqDiff, reduceAdd, reduceSub, reduceIte, reduceCtorEq, Nat.reduceBEq, reduceLT, sz35]
    repeat' (first | (simp only [hk1, hk2, hk3, hk4, hk5, Off.s_noOwn, Off.s_isV, Off.s_size, Off.w, offP, css_noOwn, strs_noOwn, hf0, hf1, hd, ↓rd_off, onC_true, isStB_st, Int.toNat_natCast, Option.map_some, dl_len, hi0, hr, hfx, hfx', hgn, hgs, ints_noOwn, doff_q2, dget_q2, dset_q2, hset, ↓wA, ↓wC, wB, frzBE, frzBS, reduceEqDiff, reduceAdd, reduceSub, reduceIte, reduceCtorEq, Nat.reduceBEq, reduceLT, sz35]) | (refine onJ_q ?_) | (with_reducible refine And.intro ?_ ?_) | (refine call_det hO (by simp [argsD, argD, Off.s_unown]) rfl ?_) | (refine call_det hF (by simp [argsD, argD, Off.s_unown]) rfl ?_) | (with_reducible refine onI_bare ?_ ?_; focus (simp only [InR]; omega)) | ((first | apply execG_split | apply execC_split | apply onPick_split) <;> intro h <;> try simp only [h]))
    refine exec_gh1 (relink 4 6 5 none [1] rfl rfl rfl rfl (by decide) rfl) ?_
    simp only [obSet, ↓wA, ↓wC, wB, frzBE, frzBS, reduceEqDiff, reduceAdd, reduceSub, reduceIte, reduceCtorEq, Nat.reduceBEq, reduceLT, sz35]
    repeat' (first | (simp only [hk1, hk2, hk3, hk4, hk5, Off.s_noOwn, Off.s_isV, Off.s_size, Off.w, offP, css_noOwn, strs_noOwn, hf0, hf1, hd, ↓rd_off, onC_true, isStB_st, Int.toNat_natCast, Option.map_some, dl_len, ↓wA, ↓wC, wB, frzBE, frzBS, reduceEqDiff, reduceAdd, reduceSub, reduceIte, reduceCtorEq, Nat.reduceBEq, reduceLT, sz35]) | (refine onJ_q ?_) | (with_reducible refine And.intro ?_ ?_) | (refine call_det hO (by simp [argsD, argD, Off.s_unown]) rfl ?_) | (refine call_det hF (by simp [argsD, argD, Off.s_unown]) rfl ?_) | (with_reducible refine onI_bare ?_ ?_; focus (simp only [InR]; omega)) | (refine call_det hG (congrArg (fun d : D => some [d]) hu) rfl ?_) | (refine callP_det hG (congrArg (fun d : D => some [d]) hu) rfl ?_) | ((first | apply execG_split | apply execC_split | apply onPick_split) <;> intro h <;> try simp only [h]))
    all_goals exact mkR_yes hM rfl rfl
theorem l25Make_fn (o : Off) (k id a v : Int) (ho : offOK o = true) (hs : stepB o k id a v = true) : Fn prog 113 [o.s, stD k id a v] (MkR o k id a v) := by
  by_cases h1 : k = 1
  · subst h1; exact make1_fn o id a v ho hs
  by_cases h2 : k = 2
  · subst h2; exact make2_fn o id a v ho hs
  by_cases h3 : k = 3
  · subst h3; exact make3_fn o id a v ho hs
  by_cases h4 : k = 4
  · subst h4; exact make4_fn o id a v ho hs
  by_cases h5 : k = 5
  · subst h5; exact make5_fn o id a v ho hs
  have h6 : k = 6 := by
    unfold stepB at hs
    rw [if_neg h1, if_neg h2, if_neg h3, if_neg h4, if_neg h5] at hs
    simp only [Bool.and_eq_true, decide_eq_true_eq] at hs
    exact hs.1.1.1
  subst h6; exact make6_fn o id a v ho hs
end Go.Pe.Tryz
set_option maxRecDepth 100000
set_option maxHeartbeats 4000000
set_option linter.all false
namespace Go.Pe.Tryz
open Nat (reduceEqDiff reduceAdd reduceSub reduceLT)
open Go.Proofs.Tryz
theorem offZ_ok0 : offZ.ok0 := ⟨⟨by decide, fun x hx => by cases hx⟩, by decide, fun s hs => by cases hs⟩
end Go.Pe.Tryz
set_option maxRecDepth 100000
set_option maxHeartbeats 4000000
set_option linter.all false
namespace Go.Pe.Tryz
open Nat (reduceEqDiff reduceAdd reduceSub reduceLT)
open Go.Proofs.Tryz
theorem heldOffice_fn (o : Off) (k : Int) (h0 : 0 ≤ k) (h1 : k ≤ 1000) (ho : o.ok0) : Fn prog 56 [(mO k o).s, .int .i64 k] (fun rs => rs = [.int .i64 (k + sumC o.cs + o.led.length)]) := by
  have hb := sumC_bd o.cs ho.1.2
  have hbl := ho.1.1
  have hll := ho.2.1
  have m1 := heldCaseS_fn o.cs k h0 h1 ho.1.1 ho.1.2
  have m2 := heldS_fn o.led.length (k + sumC o.cs) (by omega) (by omega) ho.2.1
  have n1 : decide (k + sumC o.cs < 0) = false := decide_eq_false (by omega)
  have n2 : decide (k + sumC o.cs + (o.led.length : Int) < 0) = false := decide_eq_false (by omega)
  refine Fn_of' (fn := f56) (by exact func56) c56 r56 (n := 18) (by rfl) (rv := [.tmp 4]) (by rfl) (by simp) ?_
  unfold m56
  try simp only [wQ]
  repeat' (first | (simp only [Off.s, offP, mO, css_noOwn, strs_noOwn, n1, n2, onC_true, ↓wA, ↓wC, wB, frzBE, frzBS, reduceEqDiff, reduceAdd, reduceSub, reduceIte, reduceCtorEq, Nat.reduceBEq, reduceLT, sz62]) | (refine call_det (m1) rfl rfl ?_) | (refine callP_det (m1) rfl rfl ?_) | (refine call_det (m2) rfl rfl ?_) | (refine callP_det (m2) rfl rfl ?_) | ((first | apply execG_split | apply execC_split | apply onPick_split) <;> intro h <;> try simp only [h]))
theorem toStep_fn (k id a v : Int) : Fn prog 53 [stD k id a v] (fun rs => rs = [stD k id a v]) := by
  refine Fn_of' (fn := f53) (by exact func53) c53 r53 (n := 17) (by rfl) (rv := [.cell 2 62]) (by rfl) (by simp) ?_
  unfold m53
  try simp only [wQ]
  simp only [stD]
  repeat' (first | (simp only [onC_true, ↓wA, ↓wC, wB, frzBE, frzBS, reduceEqDiff, reduceAdd, reduceSub, reduceIte, reduceCtorEq, Nat.reduceBEq, reduceLT, sz62]) | ((first | apply execG_split | apply execC_split | apply onPick_split) <;> intro h <;> try simp only [h]))
  all_goals rfl
def stepSh : Sh := .st (.cons (.int .i64) (.cons (.int .i64) (.cons (.int .i64) (.cons (.int .i64) .nil))))
theorem step_of (x : D) (h : Typed stepSh x) : ∃ k id a v : Int, x = stD k id a v := by
  obtain ⟨_, rfl, _, _, rfl, ⟨k, rfl, _⟩, _, _, rfl, ⟨i, rfl, _⟩, _, _, rfl, ⟨a, rfl, _⟩, _, _, rfl, ⟨v, rfl, _⟩, rfl⟩ := h
  exact ⟨k, i, a, v, rfl⟩
end Go.Pe.Tryz
set_option maxRecDepth 100000
set_option maxHeartbeats 4000000
set_option linter.all false
namespace Go.Pe.Tryz
open Nat (reduceEqDiff reduceAdd reduceSub reduceLT)
open Go.Proofs.Tryz
def specRunRes : Option (Off × Int) → List D
  | some p => [p.1.s, .int .i64 p.2, .bool true]
  | none => [offZ.w, .int .i64 0, .bool false]
theorem specRun_fn (o : Off) (ss : List Stp) (ho : o.ok0) (hl : ss.length ≤ 1048576) : Fn prog 47 [o.s, .sl false 4 (dl Stp.d ss)] (fun rs => rs = specRunRes (runR o ss)) := by
  have hV := l25Good_fn o ho
  cases hv : offOK o with
  | false =>
    have hR : runR o ss = none := by unfold runR; rw [hv]; rfl
    rw [hR]
    rw [hv] at hV
    refine Fn_of' (fn := f47) (by exact func47) c47 r47 (n := 51) (by rfl) (rv := [.cell 4 35, .tmp 5, .tmp 6]) (by rfl) (by simp) ?_
    unfold m47
    try simp only [wQ]
    repeat' (first | (simp only [Off.s_noOwn, Off.s_isV, ↓rd_off, steps_noOwn, onC_true, ↓wA, ↓wC, wB, frzBE, frzBS, reduceEqDiff, reduceAdd, reduceSub, reduceIte, reduceCtorEq, Nat.reduceBEq, reduceLT, sz35]) | (refine call_det hV (by simp [argsD, argD, Off.s_unown]) rfl ?_) | ((first | apply execG_split | apply execC_split | apply onPick_split) <;> intro h <;> try simp only [h]))
    all_goals rfl
  | true =>
    rw [hv] at hV
    cases hn : decide ((40 : Int) < ss.length) with
    | true =>
      have hn' := of_decide_eq_true hn
      have hR : runR o ss = none := by unfold runR; rw [hv, decide_eq_false (show ¬ ss.length ≤ 40 by omega)]; rfl
      rw [hR]
      refine Fn_of' (fn := f47) (by exact func47) c47 r47 (n := 51) (by rfl) (rv := [.cell 4 35, .tmp 5, .tmp 6]) (by rfl) (by simp) ?_
      unfold m47
      try simp only [wQ]
      repeat' (first | (simp only [Off.s_noOwn, Off.s_isV, ↓rd_off, steps_noOwn, dl_len, hn, onC_true, ↓wA, ↓wC, wB, frzBE, frzBS, reduceEqDiff, reduceAdd, reduceSub, reduceIte, reduceCtorEq, Nat.reduceBEq, reduceLT, sz35]) | (refine call_det hV (by simp [argsD, argD, Off.s_unown]) rfl ?_) | ((first | apply execG_split | apply execC_split | apply onPick_split) <;> intro h <;> try simp only [h]))
      all_goals rfl
    | false =>
      have hn' := of_decide_eq_false hn
      have hR : runR o ss = some (runN o ss ss.length) := by unfold runR; rw [hv, decide_eq_true (show ss.length ≤ 40 by omega)]; rfl
      rw [hR]
      have hO := l25Own_fn o ho
      have hwV : ∀ q : Off, q.w.isV = true := fun _ => rfl
      have hwS : ∀ q : Off, q.w.size = 5 := fun _ => rfl
      have hwB : ∀ q : Off, q.w.isStB = true := fun _ => rfl
      have hsB : ∀ q : Off, q.s.isStB = true := fun _ => rfl
      refine Fn_ofg (ps := [[1, 0, 0]]) (fn := f47) (by exact func47) c47 r47 (n := 51) (by rfl) (rv := [.cell 4 35, .tmp 5, .tmp 6]) (by rfl) (by simp) ?_
      unfold m47
      try simp only [wQ]
      simp only [ghAll, ghAt]
      repeat' (first | (simp only [Off.s_noOwn, Off.s_isV, onC_true, ↓wA, ↓wC, wB, frzBE, frzBS, reduceEqDiff, reduceAdd, reduceSub, reduceIte, reduceCtorEq, Nat.reduceBEq, reduceLT, sz35]) | ((first | apply execG_split | apply execC_split | apply onPick_split) <;> intro h <;> try simp only [h]))
      refine exec_gh1 (frzB 0 rfl) ?_
      simp only [frzBE, frzBS, Off.s_unown, ↓wA, ↓wC, wB, frzBE, frzBS, reduceEqDiff, reduceAdd, reduceSub, reduceIte, reduceCtorEq, Nat.reduceBEq, reduceLT, sz35]
      repeat' (first | (simp only [Off.s_noOwn, Off.s_isV, Off.s_size, Off.w_noOwn, hwV, hwS, ↓rd_off, steps_noOwn, dl_len, hn, onC_true, ↓wA, ↓wC, wB, frzBE, frzBS, reduceEqDiff, reduceAdd, reduceSub, reduceIte, reduceCtorEq, Nat.reduceBEq, reduceLT, sz35]) | (refine call_det hV (by simp [argsD, argD, Off.s_unown]) rfl ?_) | (refine call_det hO (by simp [argsD, argD, Off.s_unown]) rfl ?_) | ((first | apply execG_split | apply execC_split | apply onPick_split) <;> intro h <;> try simp only [h]))
      refine exec_range ss.length (fun i : Nat => ⟨[(1, .d (.sl false 4 (dl Stp.d ss))), (4, .ptr 1 0 []), (7, .ptr 3 0 []), (8, .d (.int .i64 (runN o ss i).2)), (9, .d (.int .i64 i))], [.dead, .box zO, .dead, .box (runN o ss i).1.s]⟩) (fun _ => True) ?_ trivial ?_ ?_
      · exact (freeze 3 none [] (x := o.w) (ob' := .box o.s) rfl rfl (by rw [Off.w_unown]; rfl)).trans (weak_of _ rfl ⟨⟨rfl, rfl⟩, ⟨rfl, rfl⟩, ⟨rfl, rfl⟩, ⟨rfl, rfl⟩, ⟨rfl, rfl⟩, trivial⟩)
      · intro i hlt _ hd h0
        obtain ⟨s, hr⟩ := get_lt hlt
        have hk := runN_ok (ss := ss) hv i (by omega)
        have hS := l25Step_fn (runN o ss i).1 s.k s.i s.a s.v (off_ok0 hk.1)
        have hN := runN_succ (o := o) hr
        have hE := specR_eq (runN o ss i).1 s.k s.i s.a s.v
        have hM := l25Make_fn (runN o ss i).1 s.k s.i s.a s.v hk.1
        generalize hqe : runN o ss i = qn at hk hS hN hE hM ⊢
        cases hb : stepB qn.1 s.k s.i s.a s.v with
        | false =>
          have hR : stepR qn.1 s.k s.i s.a s.v = none := by rw [← hE]; unfold specR; rw [hb, Bool.and_false]; rfl
          have e : run1 qn s = qn := by unfold run1; rw [hR]
          rw [e] at hN
          rw [hb] at hS
          repeat' (first | (simp only [dl_len, hd, h0, hr, dl_nth, Int.toNat_natCast, Option.map_some, Stp.d, rd_st4, stD_noOwn, stD_isV, stD_size, Off.s_isV, Off.s_size, Off.s_noOwn, hsB, ↓rd_off, onC_true, ↓wA, ↓wC, wB, frzBE, frzBS, reduceEqDiff, reduceAdd, reduceSub, reduceIte, reduceCtorEq, Nat.reduceBEq, reduceLT, sz35]) | (refine callP_det hS (by simp [argsD, argD, Off.s_unown]) rfl ?_) | (refine onI_bare (by simp only [InR]; omega) ?_) | ((first | apply execG_split | apply execC_split | apply onPick_split) <;> intro h <;> try simp only [h]))
          refine ⟨i + 1, ?_, by omega, by omega⟩
          rw [hN]
          exact (weak_of _ rfl ⟨⟨rfl, rfl⟩, ⟨rfl, rfl⟩, ⟨rfl, rfl⟩, ⟨rfl, rfl⟩, ⟨rfl, rfl⟩, trivial⟩)
        | true =>
          have hM := hM hb
          have hR : stepR qn.1 s.k s.i s.a s.v = makeR qn.1 s.k s.i s.a s.v := by rw [← hE]; unfold specR; rw [hb, hk.1]; rfl
          rw [hb] at hS
          cases hq : makeR qn.1 s.k s.i s.a s.v with
          | none =>
            have e : run1 qn s = qn := by unfold run1; rw [hR, hq]
            rw [e] at hN
            have hM' : Fn prog 113 [qn.1.s, stD s.k s.i s.a s.v] (fun rs => ∃ q : Off, rs = [q.w, .bool false]) := Fn_mono hM fun rs h => by
              obtain ⟨q, h1, _⟩ := h
              rw [hq] at h1
              exact ⟨q, h1⟩
            repeat' (first | (simp only [dl_len, hd, h0, hr, dl_nth, Int.toNat_natCast, Option.map_some, Stp.d, rd_st4, stD_noOwn, stD_isV, stD_size, Off.s_isV, Off.s_size, Off.s_noOwn, hsB, hwV, hwS, hwB, Off.w_noOwn, ↓rd_off, onC_true, ↓wA, ↓wC, wB, frzBE, frzBS, reduceEqDiff, reduceAdd, reduceSub, reduceIte, reduceCtorEq, Nat.reduceBEq, reduceLT, sz35]) | (refine onJ_q ?_) | (with_reducible refine And.intro ?_ ?_) | (refine callP_det hS (by simp [argsD, argD, Off.s_unown]) rfl ?_) | (refine call_rel hM' (by simp [argsD, argD, Off.s_unown]) (fun rs h => ?_); obtain ⟨q', rfl⟩ := h; refine ⟨.inl rfl, ?_⟩) | (refine onI_bare (by simp only [InR]; omega) ?_) | ((first | apply execG_split | apply execC_split | apply onPick_split) <;> intro h <;> try simp only [h]))
            all_goals
              refine ⟨i + 1, ?_, by omega, by omega⟩
              rw [hN]
              exact (weak_of _ rfl ⟨⟨rfl, rfl⟩, ⟨rfl, rfl⟩, ⟨rfl, rfl⟩, ⟨rfl, rfl⟩, ⟨rfl, rfl⟩, trivial⟩)
          | some p =>
            have e : run1 qn s = (p, qn.2 + 1) := by unfold run1; rw [hR, hq]
            rw [e] at hN
            have hM' : Fn prog 113 [qn.1.s, stD s.k s.i s.a s.v] (fun rs => rs = [p.w, .bool true]) := Fn_mono hM fun rs h => by
              obtain ⟨q, h1, h2⟩ := h
              rw [hq] at h1
              rw [h1, h2 p hq]
              rfl
            repeat' (first | (simp only [dl_len, hd, h0, hr, dl_nth, Int.toNat_natCast, Option.map_some, Stp.d, rd_st4, stD_noOwn, stD_isV, stD_size, Off.s_isV, Off.s_size, Off.s_noOwn, hsB, hwV, hwS, hwB, Off.w_noOwn, ↓rd_off, onC_true, ↓wA, ↓wC, wB, frzBE, frzBS, reduceEqDiff, reduceAdd, reduceSub, reduceIte, reduceCtorEq, Nat.reduceBEq, reduceLT, sz35]) | (refine onJ_q ?_) | (with_reducible refine And.intro ?_ ?_) | (refine callP_det hS (by simp [argsD, argD, Off.s_unown]) rfl ?_) | (refine call_det hM' (by simp [argsD, argD, Off.s_unown]) rfl ?_) | (refine onI_bare (by simp only [InR]; omega) ?_) | ((first | apply execG_split | apply execC_split | apply onPick_split) <;> intro h <;> try simp only [h]))
            all_goals
              refine onO_i _ rfl (onC_i rfl (onC_i rfl (onI_bare (by simp only [InR]; omega) (onI_bare (by simp only [InR]; omega) ?_))))
              refine ⟨i + 1, ?_, by omega, by omega⟩
              rw [hN]
              exact (freeze 3 none [] (x := p.w) (ob' := .box p.s) rfl rfl (by rw [Off.w_unown]; rfl)).trans (weak_of _ rfl ⟨⟨rfl, rfl⟩, ⟨rfl, rfl⟩, ⟨rfl, rfl⟩, ⟨rfl, rfl⟩, ⟨rfl, rfl⟩, trivial⟩)
      · intro _ hd
        repeat' (first | (simp only [dl_len, hd, onC_true, Off.s_isV, Off.s_size, Off.s_noOwn, ↓rd_off, ↓wA, ↓wC, wB, frzBE, frzBS, reduceEqDiff, reduceAdd, reduceSub, reduceIte, reduceCtorEq, Nat.reduceBEq, reduceLT, sz35]) | ((first | apply execG_split | apply execC_split | apply onPick_split) <;> intro h <;> try simp only [h]))
        exact onC_i rfl (onC_i rfl (onO_i _ rfl rfl))
end Go.Pe.Tryz
set_option maxRecDepth 100000
set_option maxHeartbeats 4000000
set_option linter.all false
namespace Go.Pe.Tryz
open Nat (reduceEqDiff reduceAdd reduceSub reduceLT)
open Go.Proofs.Tryz
theorem Stp.d_noOwn (s : Stp) : s.d.noOwn = true := rfl
theorem Stp.d_isV (s : Stp) : s.d.isV = true := rfl
theorem Stp.d_size (s : Stp) : s.d.size = 4 := rfl
theorem Stp.d_unown (s : Stp) : s.d.unown = s.d := rfl
theorem rd_stp {o : List Ob} {K : SV → Prop} {s : Stp} : stepRd o (some 4) s.d K = K (.d s.d) := rd_st4
theorem toStp_fn (s : Stp) : Fn prog 53 [s.d] (fun rs => rs = [s.d]) := toStep_fn s.k s.i s.a s.v
theorem szSteps_fn (ss : List Stp) (n : Int) (h0 : 0 ≤ n) (h1 : n ≤ 1048576) (hm : ss.length ≤ maxLen) : Fn prog 57 [.sl false 4 (dl Stp.d ss), .int .i64 n] (fun rs => ∃ m : Int, rs = [.int .i64 m] ∧ -1 ≤ m ∧ m ≤ n ∧ (0 ≤ m → ss.length ≤ 1048576)) := by
  rw [maxLen_eq] at hm
  refine Fn_of' (fn := f57) (by exact func57) c57 r57 (n := 12) (by rfl) (rv := [.tmp 4]) (by rfl) (by simp) ?_
  unfold m57
  try simp only [wQ]
  simp only [dl_len, ↓wA, ↓wC, wB, frzBE, frzBS, reduceEqDiff, reduceAdd, reduceSub, reduceIte, reduceCtorEq, Nat.reduceBEq, reduceLT]
  refine onI_bare (by simp only [InR]; omega) ?_
  cases hd : decide (n - (ss.length : Int) < 0) with
  | true =>
    repeat' (first | (simp only [hd, ↓wA, ↓wC, wB, frzBE, frzBS, reduceEqDiff, reduceAdd, reduceSub, reduceIte, reduceCtorEq, Nat.reduceBEq, reduceLT]) | ((first | apply execG_split | apply execC_split | apply onPick_split) <;> intro h <;> try simp only [h]))
    exact ⟨-1, rfl, by omega, by omega, by omega⟩
  | false =>
    have := of_decide_eq_false hd
    repeat' (first | (simp only [hd, ↓wA, ↓wC, wB, frzBE, frzBS, reduceEqDiff, reduceAdd, reduceSub, reduceIte, reduceCtorEq, Nat.reduceBEq, reduceLT]) | ((first | apply execG_split | apply execC_split | apply onPick_split) <;> intro h <;> try simp only [h]))
    exact ⟨_, rfl, by omega, by omega, by omega⟩
def zS : D := stD 0 0 0 0
def os : Option Stp → D
  | some x => x.d
  | none => zS
theorem dl_someS : ∀ xs : List Stp, dl os (xs.map some) = dl Stp.d xs
  | [] => rfl
  | x :: xs => by
    have := dl_someS xs
    simp only [dl, List.map_cons, ofL] at this ⊢
    rw [this]; rfl
theorem toSteps_own (xs : List Stp) (hlen : xs.length ≤ 1048576) : Fn prog 58 [.sl false 4 (dl Stp.d xs)] (fun rs => rs = [.sl true 4 (dl Stp.d xs)]) := by
  refine Fn_of' (fn := f58) (by exact func58) c58 r58 (n := 23) (by rfl) (rv := [.tmp 2]) (by rfl) (by simp) ?_
  unfold m58
  try simp only [wQ]
  simp only [↓wA, ↓wC, wB, frzBE, frzBS, reduceEqDiff, reduceAdd, reduceSub, reduceIte, reduceCtorEq, Nat.reduceBEq, reduceLT]
  simp only [dl_len, ↓wA, ↓wC, wB, frzBE, frzBS, reduceEqDiff, reduceAdd, reduceSub, reduceIte, reduceCtorEq, Nat.reduceBEq, reduceLT]
  refine onC_i (by omega) ?_
  have hz : ofL (List.replicate (↑xs.length : Int).toNat zS) = dl os ((xs.map some).take 0 ++ List.replicate (xs.length - 0) none) := by
    rw [show zS = os none from rfl, dl_replicate]; simp
  have hz' : D.st ((D.int IntKind.i64 0).cons ((D.int IntKind.i64 0).cons ((D.int IntKind.i64 0).cons ((D.int IntKind.i64 0).cons D.nil)))) = zS := rfl
  rw [hz', hz]
  refine exec_range xs.length (fun i : Nat => ⟨[(0, .d (.sl false 4 (dl Stp.d xs))), (3, .own 0), (4, .d (.int .i64 i))], [.val (.sl true 4 (dl os ((xs.map some).take i ++ List.replicate (xs.length - i) none)))]⟩) (fun _ => True) (weak_of _ rfl ⟨⟨rfl, rfl⟩, ⟨rfl, rfl⟩, ⟨rfl, rfl⟩, trivial⟩) trivial ?_ ?_
  · intro i hlt _ hd h0
    obtain ⟨r, hr⟩ := get_lt hlt
    have hto := toStp_fn r
    have hrs : (xs.map some)[i]? = some (some r) := by rw [List.getElem?_map, hr]; rfl
    have hn : ((xs.map some).take i ++ List.replicate (xs.length - i) (none : Option Stp))[i]? = some none := by
      rw [List.getElem?_append_right (by simp; omega), List.length_take, List.length_map, Nat.min_eq_left (by omega), Nat.sub_self, show xs.length - i = (xs.length - (i + 1)) + 1 by omega]; rfl
    repeat' (first | (simp only [dl_len, dl_nth, hd, h0, Int.toNat_natCast, hr, hn, Option.map_some, onC_true, ↓rd_stp, Stp.d_isV, Stp.d_size, Stp.d_noOwn, ↓wA, ↓wC, wB, frzBE, frzBS, reduceEqDiff, reduceAdd, reduceSub, reduceIte, reduceCtorEq, Nat.reduceBEq, reduceLT]) | (refine call_det hto (by simp [argsD, argD, valOf, Stp.d_unown]) rfl ?_) | (refine onI_bare (by simp only [InR]; omega) ?_) | ((first | apply execG_split | apply execC_split | apply onPick_split) <;> intro h <;> try simp only [h]))
    refine onC_i rfl ?_
    refine onI_bare (by simp only [InR]; omega) ?_
    have hfs : (dl os ((xs.map some).take i ++ List.replicate (xs.length - i) none)).setN i r.d = dl os ((xs.map some).take (i + 1) ++ List.replicate (xs.length - (i + 1)) none) := by
      have hl : xs.length = (xs.map (some : Stp → Option Stp)).length := by simp
      rw [show r.d = os (some r) from rfl, dl_setN]
      conv => lhs; rw [hl]
      conv => rhs; rw [hl]
      rw [fill_step hrs]
    rw [hfs]
    exact ⟨i + 1, (weak_of _ rfl ⟨⟨rfl, rfl⟩, ⟨rfl, rfl⟩, ⟨rfl, rfl⟩, trivial⟩), by omega, by omega⟩
  · intro _ hd
    simp only [dl_len, hd, ↓wA, ↓wC, wB, frzBE, frzBS, reduceEqDiff, reduceAdd, reduceSub, reduceIte, reduceCtorEq, Nat.reduceBEq, reduceLT]
    have h1 : (xs.map (some : Stp → Option Stp)).take xs.length = xs.map some := List.take_of_length_le (by simp)
    rw [h1, Nat.sub_self, List.replicate_zero, List.append_nil, dl_someS]
theorem eqStep_refl (s : Stp) : Fn prog 130 [s.d, s.d] (fun rs => rs = [.bool true]) := by
  refine Fn_of' (fn := f130) (by exact func130) c130 r130 (n := 25) (by rfl) (rv := [.tmp 4]) (by rfl) (by simp) ?_
  unfold m130
  try simp only [wQ]
  simp only [Stp.d, stD]
  repeat' (first | (simp only [onC_true, decide_true, ↓wA, ↓wC, wB, frzBE, frzBS, reduceEqDiff, reduceAdd, reduceSub, reduceIte, reduceCtorEq, Nat.reduceBEq, reduceLT]) | ((first | apply execG_split | apply execC_split | apply onPick_split) <;> intro h <;> try simp only [h]))
theorem eqSteps_refl (xs : List Stp) (hlen : xs.length ≤ 1048576) : Fn prog 59 [.sl false 4 (dl Stp.d xs), .sl false 4 (dl Stp.d xs)] (fun rs => rs = [.bool true]) := by
  refine Fn_of' (fn := f59) (by exact func59) c59 r59 (n := 27) (by rfl) (rv := [.tmp 4]) (by rfl) (by simp) ?_
  unfold m59
  try simp only [wQ]
  simp only [dl_len, ↓wA, ↓wC, wB, frzBE, frzBS, reduceEqDiff, reduceAdd, reduceSub, reduceIte, reduceCtorEq, Nat.reduceBEq, reduceLT]
  refine exec_range xs.length (fun i : Nat => ⟨[(0, .d (.sl false 4 (dl Stp.d xs))), (1, .d (.sl false 4 (dl Stp.d xs))), (5, .d (.int .i64 i))], []⟩) (fun _ => True) (weak_of _ rfl ⟨⟨rfl, rfl⟩, ⟨rfl, rfl⟩, ⟨rfl, rfl⟩, trivial⟩) trivial ?_ ?_
  · intro i hlt _ hd h0
    obtain ⟨r, hr⟩ := get_lt hlt
    have hE := eqStep_refl r
    repeat' (first | (simp only [dl_len, dl_nth, hd, h0, Int.toNat_natCast, hr, Option.map_some, onC_true, ↓rd_stp, Stp.d_isV, Stp.d_size, Stp.d_noOwn, ↓wA, ↓wC, wB, frzBE, frzBS, reduceEqDiff, reduceAdd, reduceSub, reduceIte, reduceCtorEq, Nat.reduceBEq, reduceLT]) | (refine callP_det hE (by simp [argsD, argD, Stp.d_unown]) rfl ?_) | (refine onI_bare (by simp only [InR]; omega) ?_) | ((first | apply execG_split | apply execC_split | apply onPick_split) <;> intro h <;> try simp only [h]))
    exact ⟨i + 1, (weak_of _ rfl ⟨⟨rfl, rfl⟩, ⟨rfl, rfl⟩, ⟨rfl, rfl⟩, trivial⟩), by omega, by omega⟩
  · intro _ hd
    simp only [dl_len, hd, ↓wA, ↓wC, wB, frzBE, frzBS, reduceEqDiff, reduceAdd, reduceSub, reduceIte, reduceCtorEq, Nat.reduceBEq, reduceLT]
def markT : Nat → Int → List Stp
  | 0, _ => []
  | n + 1, k => ⟨k, k + 1, k + 2, k + 3⟩ :: markT n (k + 4)
theorem markT_len : ∀ (n : Nat) (k : Int), (markT n k).length = n
  | 0, _ => rfl
  | n + 1, k => by simp [markT, markT_len n]
theorem markT_snoc : ∀ (n : Nat) (k : Int), markT (n + 1) k = markT n k ++ [⟨k + 4 * n, k + 4 * n + 1, k + 4 * n + 2, k + 4 * n + 3⟩]
  | 0, k => by simp [markT]
  | n + 1, k => by
    have h := markT_snoc n (k + 4)
    rw [markT, h, markT]
    have e : k + 4 + 4 * (n : Int) = k + 4 * ((n + 1 : Nat) : Int) := by omega
    simp only [e, List.cons_append]
theorem dset_t0 {k i a v n : Int} : dset [0] (stD k i a v) (.int .i64 n) = stD n i a v := rfl
theorem dset_t1 {k i a v n : Int} : dset [1] (stD k i a v) (.int .i64 n) = stD k n a v := rfl
theorem dset_t2 {k i a v n : Int} : dset [2] (stD k i a v) (.int .i64 n) = stD k i n v := rfl
theorem dset_t3 {k i a v n : Int} : dset [3] (stD k i a v) (.int .i64 n) = stD k i a n := rfl
theorem doff_t0 {k i a v : Int} : doff [0] (stD k i a v) = 0 := rfl
theorem doff_t1 {k i a v : Int} : doff [1] (stD k i a v) = 1 := rfl
theorem doff_t2 {k i a v : Int} : doff [2] (stD k i a v) = 2 := rfl
theorem doff_t3 {k i a v : Int} : doff [3] (stD k i a v) = 3 := rfl
theorem dget_t0 {k i a v : Int} : dget [0] (stD k i a v) = some (.int .i64 k) := rfl
theorem dget_t1 {k i a v : Int} : dget [1] (stD k i a v) = some (.int .i64 i) := rfl
theorem dget_t2 {k i a v : Int} : dget [2] (stD k i a v) = some (.int .i64 a) := rfl
theorem dget_t3 {k i a v : Int} : dget [3] (stD k i a v) = some (.int .i64 v) := rfl
theorem sdrop_get {xs : List Stp} {i : Nat} {x : Stp} (hr : xs[i]? = some x) : xs.drop i = x :: xs.drop (i + 1) := by
  have hi := lt_of_get hr
  rw [List.drop_eq_getElem_cons hi]
  rw [List.getElem?_eq_getElem hi] at hr
  injection hr with hr
  rw [hr]
theorem markSteps_fn (xs : List Stp) (k : Int) (h0 : 0 ≤ k) (h1 : k ≤ 10000000000000) (hlen : xs.length ≤ 1048576) : FnM prog 60 false (.sl true 4 (dl Stp.d xs)) [.int .i64 k] (fun x' rs => x' = .sl true 4 (dl Stp.d (markT xs.length k)) ∧ rs = [.int .i64 (k + 4 * xs.length)]) := by
  refine FnM_of' (fn := f60) (by exact func60) c60 r60 (n := 41) (by rfl) (rv := [.tmp 4]) (by rfl) (by decide) (by simp) ?_
  unfold m60
  try simp only [wQ]
  simp only [dl_len, ↓wA, ↓wC, wB, frzBE, frzBS, reduceEqDiff, reduceAdd, reduceSub, reduceIte, reduceCtorEq, Nat.reduceBEq, reduceLT]
  refine exec_range xs.length (fun i : Nat => ⟨[(0, .own 0), (1, .d (.int .i64 (k + 4 * i))), (5, .d (.int .i64 i))], [.val (.sl true 4 (dl Stp.d (markT i k ++ xs.drop i)))]⟩) (fun _ => True) (weak_of [] rfl ⟨⟨rfl, rfl⟩, ⟨congrArg (fun n => SV.d (.int .i64 n)) (by simp), rfl⟩, ⟨rfl, rfl⟩, trivial⟩) trivial ?_ ?_
  · intro i hlt _ hd hi0
    obtain ⟨x, hr⟩ := get_lt hlt
    have hll : (markT i k ++ xs.drop i).length = xs.length := by rw [List.length_append, markT_len, List.length_drop]; omega
    have hgn : (dl Stp.d (markT i k ++ xs.drop i)).nth i = some (stD x.k x.i x.a x.v) := by
      rw [dl_nth, List.getElem?_append_right (by rw [markT_len]; omega), markT_len, Nat.sub_self, sdrop_get hr]; rfl
    have hgs : ∀ (y : D), ((dl Stp.d (markT i k ++ xs.drop i)).setN i y).nth i = some y := fun y => by rw [setN_nth, if_pos rfl, hgn]; rfl
    have hset : (dl Stp.d (markT i k ++ xs.drop i)).setN i (stD (k + 4 * i) (k + 4 * i + 1) (k + 4 * i + 1 + 1) (k + 4 * i + 1 + 1 + 1)) = dl Stp.d (markT (i + 1) k ++ xs.drop (i + 1)) := by
      have e2 : k + 4 * (i : Int) + 1 + 1 = k + 4 * i + 2 := by omega
      have e3 : k + 4 * (i : Int) + 2 + 1 = k + 4 * i + 3 := by omega
      rw [e2, e3, show stD (k + 4 * i) (k + 4 * i + 1) (k + 4 * i + 2) (k + 4 * i + 3) = Stp.d ⟨k + 4 * i, k + 4 * i + 1, k + 4 * i + 2, k + 4 * i + 3⟩ from rfl, dl_setN, List.set_append_right _ _ (by rw [markT_len]; omega), markT_len, Nat.sub_self, sdrop_get hr, List.set_cons_zero, markT_snoc, List.append_assoc]
      rfl
    repeat' (first | (simp only [dl_len, hll, hd, hi0, Int.toNat_natCast, onC_true, hgn, hgs, setN_len, setN_setN, dset_t0, dset_t1, dset_t2, dset_t3, doff_t0, doff_t1, doff_t2, doff_t3, dget_t0, dget_t1, dget_t2, dget_t3, ↓wA, ↓wC, wB, frzBE, frzBS, reduceEqDiff, reduceAdd, reduceSub, reduceIte, reduceCtorEq, Nat.reduceBEq, reduceLT]) | (refine onI_bare (by simp only [InR]; omega) ?_) | ((first | apply execG_split | apply execC_split | apply onPick_split) <;> intro h <;> try simp only [h]))
    rw [hset]
    refine ⟨i + 1, weak_of [] rfl ⟨⟨rfl, rfl⟩, ⟨?_, rfl⟩, ⟨rfl, rfl⟩, trivial⟩, by omega, by omega⟩
    exact congrArg (fun n => SV.d (.int .i64 n)) (by omega)
  · intro _ hd
    have e1 : (markT xs.length k ++ xs.drop xs.length) = markT xs.length k := by rw [List.drop_length, List.append_nil]
    rw [e1]
    simp only [dl_len, markT_len, hd, ↓wA, ↓wC, wB, frzBE, frzBS, reduceEqDiff, reduceAdd, reduceSub, reduceIte, reduceCtorEq, Nat.reduceBEq, reduceLT]
end Go.Pe.Tryz
