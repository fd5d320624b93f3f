/- Steps of an office: the reference's l25Make; walked; Steps of an office: the reference's StepOffice and RunOffice; walked -/
import Derived.Test.YtcceknofpegakaaGreatDoorW3
import Derived.Test.YtcceknofpegakaaGreatDoorPeD
import Derived.Test.YtcceknofpegakaaGreatDoorMc1
import Derived.Test.YtcceknofpegakaaGreatDoorMc2
import Derived.Test.YtcceknofpegakaaGreatDoorMc3
import Derived.Test.YtcceknofpegakaaGreatDoorMc4
set_option maxRecDepth 100000
set_option maxHeartbeats 4000000
set_option linter.all false
namespace Go.Pe.Tryz
open Nat (reduceEqDiff reduceAdd reduceSub reduceLT)
open Go.Proofs.Tryz
def MkR (o : Off) (k id a v : Int) (rs : List D) : Prop := ∃ q : Off, rs = [q.w, .bool (makeR o k id a v).isSome] ∧ ∀ q', makeR o k id a v = some q' → q' = q
theorem makeR_some {o q : Off} {k id a v : Int} (h : makeO o k id a v = some q) : makeR o k id a v = if offOK q = true then some q else none := by
  unfold makeR; rw [h]; rfl
theorem mkR_yes {o q : Off} {k id a v : Int} (h : makeO o k id a v = some q) {x : D} {b : Bool} (hx : x = q.w) (hb : b = offOK q) : MkR o k id a v [x, .bool b] := by
  have hm := makeR_some h
  refine ⟨q, ?_, fun q' h' => ?_⟩
  · rw [hx, hb, hm]
    cases offOK q <;> rfl
  · rw [hm] at h'
    split at h'
    · injection h' with h'; exact h'.symm
    · cases h'
theorem mkR_no {o : Off} {k id a v : Int} (q : Off) (h : makeO o k id a v = none) {x : D} (hx : x = q.w) : MkR o k id a v [x, .bool false] := by
  have hm : makeR o k id a v = none := by unfold makeR; rw [h]; rfl
  exact ⟨q, by rw [hx, hm]; rfl, fun q' h' => by rw [hm] at h'; cases h'⟩
theorem Off.w_unown (o : Off) : o.w.unown = o.s := by simp [Off.w, Off.s, offP, D.unown, css_unown, strs_unown]
theorem Off.w_noOwn (o : Off) : o.w.noOwn = false := by simp [Off.w, offP, D.noOwn]
theorem make_ok0 {o q : Off} {k id a v : Int} (ho : offOK o = true) (h : makeO o k id a v = some q) : q.ok0 := by
  have hp := off_parts ho
  have h0 := off_ok0 ho
  have hc : ∀ (i : Nat) (x : Cs), o.cs[i]? = some x → caseOK x = true := fun i x hr => hp.2.2.2.2.2.2.2.2.2 x (List.mem_of_getElem? hr)
  unfold makeO at h
  split at h
  · split at h
    · cases h
    · injection h with h; subst h; exact h0
  split at h
  · split at h
    · cases h
    · injection h with h
      subst h
      refine ⟨⟨?_, fun x hx => ?_⟩, h0.2⟩
      · simp [enterC]; omega
      · rcases List.mem_append.1 hx with hx | hx
        · exact h0.1.2 x (List.mem_of_mem_take hx)
        · rcases List.mem_cons.1 hx with rfl | hx
          · simp [Cs.ok0]
          · exact h0.1.2 x (List.mem_of_mem_drop hx)
  split at h
  · split at h
    · injection h with h
      subst h
      refine ⟨⟨by simpa using h0.1.1, fun x hx => ?_⟩, h0.2⟩
      obtain ⟨y, hy, rfl⟩ := List.mem_map.1 hx
      exact Nat.le_trans (List.length_filter_le (fun n => !decide (n = v)) y.h) (h0.1.2 y hy)
    · cases h
  split at h
  · rename_i x hr
    have hxc := case_parts (hc _ x hr)
    split at h
    · split at h
      · cases h
      · injection h with h
        subst h
        refine ⟨set_ok0 h0.1 ?_, h0.2⟩
        show (putI v x.h).length ≤ 1048576
        rw [putI_len]; omega
    · split at h
      · split at h
        · cases h
        · injection h with h
          subst h
          refine ⟨set_ok0 h0.1 ?_, h0.2⟩
          show x.h.length ≤ 1048576
          omega
      · split at h
        · injection h with h
          subst h
          have he : ∀ i, casesOk (o.cs.eraseIdx i) := fun i => ⟨by have := List.length_eraseIdx_le o.cs i; omega, fun y hy => h0.1.2 y (List.mem_of_mem_eraseIdx hy)⟩
          unfold outO
          split
          · exact ⟨he _, h0.2⟩
          · split
            · exact ⟨he _, h0.2⟩
            · refine ⟨he _, by simp; omega, fun s hs => ?_⟩
              rcases List.mem_append.1 hs with hs | hs
              · exact h0.2.2 s hs
              · rw [List.mem_singleton.1 hs]
                have h1 := itoa_le x.i (by simp only [InR]; omega)
                have h2 := itoa_le o.day (by simp only [InR]; omega)
                simp [entryT]; omega
        · cases h
  · cases h
theorem make1_fn (o : Off) (id a v : Int) (ho : offOK o = true) (hs : stepB o 1 id a v = true) : Fn prog 113 [o.s, stD 1 id a v] (MkR o 1 id a v) := by
  have hk1 : decide ((1 : Int) = 1) = true := rfl
  have hk2 : decide ((1 : Int) = 2) = false := rfl
  have hk3 : decide ((1 : Int) = 3) = false := rfl
  have hk4 : decide ((1 : Int) = 4) = false := rfl
  have hk5 : decide ((1 : Int) = 5) = false := rfl
  have hp := off_parts ho
  have ho0 := off_ok0 ho
  have hO := l25Own_fn o ho0
  have hF := l25Find_fn o id ho0
  have hv : 1 ≤ v := by simp [stepB] at hs; exact hs.2
  refine Fn_ofg (ps := [[1, 0], [1, 0]]) (fn := f113) (by exact func113) c113 r113 (n := 118) (by rfl) (rv := [.cell 4 35, .tmp 5]) (by rfl) (by simp) ?_
  unfold m113
  try simp only [wQ]
  simp only [ghAll, ghAt]
  simp only [stD]
  repeat' (first | (simp only [Off.s_noOwn, Off.s_isV, onC_true, ↓wA, ↓wC, wB, frzBE, frzBS, reduceEqDiff, reduceAdd, reduceSub, reduceIte, reduceCtorEq, Nat.reduceBEq, reduceLT, sz35]) | ((first | apply execG_split | apply execC_split | apply onPick_split) <;> intro h <;> try simp only [h]))
  refine exec_gh1 (frzB 0 rfl) ?_
  simp only [frzBE, frzBS, Off.s_unown, ↓wA, ↓wC, wB, frzBE, frzBS, reduceEqDiff, reduceAdd, reduceSub, reduceIte, reduceCtorEq, Nat.reduceBEq, reduceLT, sz35]
  refine exec_gh1 (frzB 1 rfl) ?_
  simp only [frzBE, frzBS, D.unown, ↓wA, ↓wC, wB, frzBE, frzBS, reduceEqDiff, reduceAdd, reduceSub, reduceIte, reduceCtorEq, Nat.reduceBEq, reduceLT, sz35]
  have hf0 : ∀ K : SV → Prop, stepFa 0 0 (.d (.ptr o.s)) K = K (.d (.ptr (.int .i64 o.day))) := fun K => by simp [Off.s, offP, stepFa, D.pre, D.nth, D.size]
  have hf1 : ∀ K : SV → Prop, stepFa 1 1 (.d (.ptr o.s)) K = K (.d (.ptr (.sl false 4 (dl Cs.s o.cs)))) := fun K => by simp [Off.s, offP, stepFa, D.pre, D.nth, D.size]
  cases hd : decide (20000 - o.day < v) with
  | true =>
    have hM : makeO o 1 id a v = none := by unfold makeO; rw [if_pos rfl, if_pos (of_decide_eq_true hd)]
    repeat' (first | (simp only [hk1, hk2, hk3, hk4, hk5, Off.s_noOwn, Off.s_isV, Off.s_size, Off.w, offP, css_noOwn, strs_noOwn, hf0, hf1, hd, ↓rd_off, onC_true, isStB_st, Int.toNat_natCast, ↓wA, ↓wC, wB, frzBE, frzBS, reduceEqDiff, reduceAdd, reduceSub, reduceIte, reduceCtorEq, Nat.reduceBEq, reduceLT, sz35]) | (refine onJ_q ?_) | (with_reducible refine And.intro ?_ ?_) | (refine call_det hO (by simp [argsD, argD, Off.s_unown]) rfl ?_) | (refine call_det hF (by simp [argsD, argD, Off.s_unown]) rfl ?_) | (with_reducible refine onI_bare ?_ ?_; focus (simp only [InR]; omega)) | ((first | apply execG_split | apply execC_split | apply onPick_split) <;> intro h <;> try simp only [h]))
    all_goals exact mkR_no o hM rfl
  | false =>
    have hM : makeO o 1 id a v = some { o with day := o.day + v } := by unfold makeO; rw [if_pos rfl, if_neg (of_decide_eq_false hd)]
    have hG := l25Good_fn _ (make_ok0 ho hM)
    have hd' := of_decide_eq_false hd
    have hu : (D.st (.cons (.int .i64 (o.day + v)) (.cons (.sl true 4 (dl Cs.s o.cs)) (.cons (.int .i64 o.kept) (.cons (.int .i64 o.moved) (.cons (.sl true 1 (dl D.str o.led)) .nil)))))).unown = Off.s { o with day := o.day + v } := Off.w_unown { o with day := o.day + v }
    repeat' (first | (simp only [hk1, hk2, hk3, hk4, hk5, Off.s_noOwn, Off.s_isV, Off.s_size, Off.w, offP, css_noOwn, strs_noOwn, hf0, hf1, hd, ↓rd_off, onC_true, isStB_st, Int.toNat_natCast, ↓wA, ↓wC, wB, frzBE, frzBS, reduceEqDiff, reduceAdd, reduceSub, reduceIte, reduceCtorEq, Nat.reduceBEq, reduceLT, sz35]) | (refine onJ_q ?_) | (with_reducible refine And.intro ?_ ?_) | (refine call_det hO (by simp [argsD, argD, Off.s_unown]) rfl ?_) | (refine call_det hF (by simp [argsD, argD, Off.s_unown]) rfl ?_) | (with_reducible refine onI_bare ?_ ?_; focus (simp only [InR]; omega)) | (refine call_det hG (congrArg (fun d : D => some [d]) hu) rfl ?_) | (refine callP_det hG (congrArg (fun d : D => some [d]) hu) rfl ?_) | ((first | apply execG_split | apply execC_split | apply onPick_split) <;> intro h <;> try simp only [h]))
    all_goals exact mkR_yes hM rfl rfl
theorem make2_fn (o : Off) (id a v : Int) (ho : offOK o = true) (hs : stepB o 2 id a v = true) : Fn prog 113 [o.s, stD 2 id a v] (MkR o 2 id a v) := by
  have hk1 : decide ((2 : Int) = 1) = false := rfl
  have hk2 : decide ((2 : Int) = 2) = true := rfl
  have hk3 : decide ((2 : Int) = 3) = false := rfl
  have hk4 : decide ((2 : Int) = 4) = false := rfl
  have hk5 : decide ((2 : Int) = 5) = false := rfl
  have hp := off_parts ho
  have ho0 := off_ok0 ho
  have hO := l25Own_fn o ho0
  have hF := l25Find_fn o id ho0
  have hv : 0 ≤ v := by simp [stepB] at hs; exact hs.2
  refine Fn_ofg (ps := [[1, 0], [1, 0]]) (fn := f113) (by exact func113) c113 r113 (n := 118) (by rfl) (rv := [.cell 4 35, .tmp 5]) (by rfl) (by simp) ?_
  unfold m113
  try simp only [wQ]
  simp only [ghAll, ghAt]
  simp only [stD]
  repeat' (first | (simp only [Off.s_noOwn, Off.s_isV, onC_true, ↓wA, ↓wC, wB, frzBE, frzBS, reduceEqDiff, reduceAdd, reduceSub, reduceIte, reduceCtorEq, Nat.reduceBEq, reduceLT, sz35]) | ((first | apply execG_split | apply execC_split | apply onPick_split) <;> intro h <;> try simp only [h]))
  refine exec_gh1 (frzB 0 rfl) ?_
  simp only [frzBE, frzBS, Off.s_unown, ↓wA, ↓wC, wB, frzBE, frzBS, reduceEqDiff, reduceAdd, reduceSub, reduceIte, reduceCtorEq, Nat.reduceBEq, reduceLT, sz35]
  refine exec_gh1 (frzB 1 rfl) ?_
  simp only [frzBE, frzBS, D.unown, ↓wA, ↓wC, wB, frzBE, frzBS, reduceEqDiff, reduceAdd, reduceSub, reduceIte, reduceCtorEq, Nat.reduceBEq, reduceLT, sz35]
  have hf0 : ∀ K : SV → Prop, stepFa 0 0 (.d (.ptr o.s)) K = K (.d (.ptr (.int .i64 o.day))) := fun K => by simp [Off.s, offP, stepFa, D.pre, D.nth, D.size]
  have hf1 : ∀ K : SV → Prop, stepFa 1 1 (.d (.ptr o.s)) K = K (.d (.ptr (.sl false 4 (dl Cs.s o.cs)))) := fun K => by simp [Off.s, offP, stepFa, D.pre, D.nth, D.size]
  cases hd : decide (20000 - o.day < v) with
  | true =>
    have hM : makeO o 2 id a v = none := by unfold makeO; rw [if_neg (by decide), if_pos rfl, if_pos (of_decide_eq_true hd)]
    repeat' (first | (simp only [hk1, hk2, hk3, hk4, hk5, Off.s_noOwn, Off.s_isV, Off.s_size, Off.w, offP, css_noOwn, strs_noOwn, hf0, hf1, hd, ↓rd_off, onC_true, isStB_st, Int.toNat_natCast, Option.map_some, dl_len, dl_nth, ↓wA, ↓wC, wB, frzBE, frzBS, reduceEqDiff, reduceAdd, reduceSub, reduceIte, reduceCtorEq, Nat.reduceBEq, reduceLT, sz35]) | (refine onJ_q ?_) | (with_reducible refine And.intro ?_ ?_) | (refine call_det hO (by simp [argsD, argD, Off.s_unown]) rfl ?_) | (refine call_det hF (by simp [argsD, argD, Off.s_unown]) rfl ?_) | (with_reducible refine onI_bare ?_ ?_; focus (simp only [InR]; omega)) | ((first | apply execG_split | apply execC_split | apply onPick_split) <;> intro h <;> try simp only [h]))
    all_goals exact mkR_no o hM rfl
  | false =>
    have hM : makeO o 2 id a v = some { o with cs := enterC ⟨id, a, o.day + v, []⟩ o.cs } := by unfold makeO; rw [if_neg (by decide), if_pos rfl, if_neg (of_decide_eq_false hd)]
    have hG := l25Good_fn _ (make_ok0 ho hM)
    have hd' := of_decide_eq_false hd
    have hE := l25Enter_fn o 2 id a v ho0 (by simp only [InR]; omega)
    simp only [stD] at hE
    have hu : (D.st (.cons (.int .i64 o.day) (.cons (.sl true 4 (dl Cs.s (enterC ⟨id, a, o.day + v, []⟩ o.cs))) (.cons (.int .i64 o.kept) (.cons (.int .i64 o.moved) (.cons (.sl true 1 (dl D.str o.led)) .nil)))))).unown = Off.s { o with cs := enterC ⟨id, a, o.day + v, []⟩ o.cs } := Off.w_unown { o with cs := enterC ⟨id, a, o.day + v, []⟩ o.cs }
    repeat' (first | (simp only [hk1, hk2, hk3, hk4, hk5, Off.s_noOwn, Off.s_isV, Off.s_size, Off.w, offP, css_noOwn, strs_noOwn, hf0, hf1, hd, ↓rd_off, onC_true, isStB_st, Int.toNat_natCast, Option.map_some, dl_len, dl_nth, ↓wA, ↓wC, wB, frzBE, frzBS, reduceEqDiff, reduceAdd, reduceSub, reduceIte, reduceCtorEq, Nat.reduceBEq, reduceLT, sz35]) | (refine onJ_q ?_) | (with_reducible refine And.intro ?_ ?_) | (refine call_det hO (by simp [argsD, argD, Off.s_unown]) rfl ?_) | (refine call_det hF (by simp [argsD, argD, Off.s_unown]) rfl ?_) | (with_reducible refine onI_bare ?_ ?_; focus (simp only [InR]; omega)) | (refine call_det hE (by simp [argsD, argD, Off.s_unown, D.unown]) rfl ?_) | (refine call_det hG (congrArg (fun d : D => some [d]) hu) rfl ?_) | (refine callP_det hG (congrArg (fun d : D => some [d]) hu) rfl ?_) | ((first | apply execG_split | apply execC_split | apply onPick_split) <;> intro h <;> try simp only [h]))
    all_goals exact mkR_yes hM rfl rfl
theorem make4_fn (o : Off) (id a v : Int) (ho : offOK o = true) (hs : stepB o 4 id a v = true) : Fn prog 113 [o.s, stD 4 id a v] (MkR o 4 id a v) := by
  have hk1 : decide ((4 : Int) = 1) = false := rfl
  have hk2 : decide ((4 : Int) = 2) = false := rfl
  have hk3 : decide ((4 : Int) = 3) = false := rfl
  have hk4 : decide ((4 : Int) = 4) = true := rfl
  have hk5 : decide ((4 : Int) = 5) = false := rfl
  have hp := off_parts ho
  have ho0 := off_ok0 ho
  have hO := l25Own_fn o ho0
  have hF := l25Find_fn o id ho0
  have hE := l25Release_fn o v ho0
  have hd : True := trivial
  cases hc : hasC v o.cs with
  | true =>
    have hM : makeO o 4 id a v = some { o with cs := o.cs.map (relC v) } := by unfold makeO; rw [if_neg (by decide), if_neg (by decide), if_pos rfl, if_pos hc]
    have hG := l25Good_fn _ (make_ok0 ho hM)
    have hu : (D.st (.cons (.int .i64 o.day) (.cons (.sl true 4 (dl Cs.s (o.cs.map (relC v)))) (.cons (.int .i64 o.kept) (.cons (.int .i64 o.moved) (.cons (.sl true 1 (dl D.str o.led)) .nil)))))).unown = Off.s { o with cs := o.cs.map (relC v) } := Off.w_unown { o with cs := o.cs.map (relC v) }
    rw [hc] at hE
    refine Fn_ofg (ps := [[1, 0], [1, 0]]) (fn := f113) (by exact func113) c113 r113 (n := 118) (by rfl) (rv := [.cell 4 35, .tmp 5]) (by rfl) (by simp) ?_
    unfold m113
    try simp only [wQ]
    simp only [ghAll, ghAt]
    simp only [stD]
    repeat' (first | (simp only [Off.s_noOwn, Off.s_isV, onC_true, ↓wA, ↓wC, wB, frzBE, frzBS, reduceEqDiff, reduceAdd, reduceSub, reduceIte, reduceCtorEq, Nat.reduceBEq, reduceLT, sz35]) | ((first | apply execG_split | apply execC_split | apply onPick_split) <;> intro h <;> try simp only [h]))
    refine exec_gh1 (frzB 0 rfl) ?_
    simp only [frzBE, frzBS, Off.s_unown, ↓wA, ↓wC, wB, frzBE, frzBS, reduceEqDiff, reduceAdd, reduceSub, reduceIte, reduceCtorEq, Nat.reduceBEq, reduceLT, sz35]
    refine exec_gh1 (frzB 1 rfl) ?_
    simp only [frzBE, frzBS, D.unown, ↓wA, ↓wC, wB, frzBE, frzBS, reduceEqDiff, reduceAdd, reduceSub, reduceIte, reduceCtorEq, Nat.reduceBEq, reduceLT, sz35]
    have hf0 : ∀ K : SV → Prop, stepFa 0 0 (.d (.ptr o.s)) K = K (.d (.ptr (.int .i64 o.day))) := fun K => by simp [Off.s, offP, stepFa, D.pre, D.nth, D.size]
    have hf1 : ∀ K : SV → Prop, stepFa 1 1 (.d (.ptr o.s)) K = K (.d (.ptr (.sl false 4 (dl Cs.s o.cs)))) := fun K => by simp [Off.s, offP, stepFa, D.pre, D.nth, D.size]
    repeat' (first | (simp only [hk1, hk2, hk3, hk4, hk5, Off.s_noOwn, Off.s_isV, Off.s_size, Off.w, offP, css_noOwn, strs_noOwn, hf0, hf1, hd, ↓rd_off, onC_true, isStB_st, Int.toNat_natCast, Option.map_some, dl_len, dl_nth, ↓wA, ↓wC, wB, frzBE, frzBS, reduceEqDiff, reduceAdd, reduceSub, reduceIte, reduceCtorEq, Nat.reduceBEq, reduceLT, sz35]) | (refine onJ_q ?_) | (with_reducible refine And.intro ?_ ?_) | (refine call_det hO (by simp [argsD, argD, Off.s_unown]) rfl ?_) | (refine call_det hF (by simp [argsD, argD, Off.s_unown]) rfl ?_) | (with_reducible refine onI_bare ?_ ?_; focus (simp only [InR]; omega)) | (refine call_det hE (by simp [argsD, argD, Off.s_unown]) rfl ?_) | (refine call_det hG (congrArg (fun d : D => some [d]) hu) rfl ?_) | (refine callP_det hG (congrArg (fun d : D => some [d]) hu) rfl ?_) | ((first | apply execG_split | apply execC_split | apply onPick_split) <;> intro h <;> try simp only [h]))
    all_goals exact mkR_yes hM rfl rfl
  | false =>
    have hM : makeO o 4 id a v = none := by unfold makeO; rw [if_neg (by decide), if_neg (by decide), if_pos rfl, if_neg (by rw [hc]; decide)]
    rw [hc] at hE
    refine Fn_ofg (ps := [[1, 0], [1, 0]]) (fn := f113) (by exact func113) c113 r113 (n := 118) (by rfl) (rv := [.cell 4 35, .tmp 5]) (by rfl) (by simp) ?_
    unfold m113
    try simp only [wQ]
    simp only [ghAll, ghAt]
    simp only [stD]
    repeat' (first | (simp only [Off.s_noOwn, Off.s_isV, onC_true, ↓wA, ↓wC, wB, frzBE, frzBS, reduceEqDiff, reduceAdd, reduceSub, reduceIte, reduceCtorEq, Nat.reduceBEq, reduceLT, sz35]) | ((first | apply execG_split | apply execC_split | apply onPick_split) <;> intro h <;> try simp only [h]))
    refine exec_gh1 (frzB 0 rfl) ?_
    simp only [frzBE, frzBS, Off.s_unown, ↓wA, ↓wC, wB, frzBE, frzBS, reduceEqDiff, reduceAdd, reduceSub, reduceIte, reduceCtorEq, Nat.reduceBEq, reduceLT, sz35]
    refine exec_gh1 (frzB 1 rfl) ?_
    simp only [frzBE, frzBS, D.unown, ↓wA, ↓wC, wB, frzBE, frzBS, reduceEqDiff, reduceAdd, reduceSub, reduceIte, reduceCtorEq, Nat.reduceBEq, reduceLT, sz35]
    have hf0 : ∀ K : SV → Prop, stepFa 0 0 (.d (.ptr o.s)) K = K (.d (.ptr (.int .i64 o.day))) := fun K => by simp [Off.s, offP, stepFa, D.pre, D.nth, D.size]
    have hf1 : ∀ K : SV → Prop, stepFa 1 1 (.d (.ptr o.s)) K = K (.d (.ptr (.sl false 4 (dl Cs.s o.cs)))) := fun K => by simp [Off.s, offP, stepFa, D.pre, D.nth, D.size]
    repeat' (first | (simp only [hk1, hk2, hk3, hk4, hk5, Off.s_noOwn, Off.s_isV, Off.s_size, Off.w, offP, css_noOwn, strs_noOwn, hf0, hf1, hd, ↓rd_off, onC_true, isStB_st, Int.toNat_natCast, Option.map_some, dl_len, dl_nth, ↓wA, ↓wC, wB, frzBE, frzBS, reduceEqDiff, reduceAdd, reduceSub, reduceIte, reduceCtorEq, Nat.reduceBEq, reduceLT, sz35]) | (refine onJ_q ?_) | (with_reducible refine And.intro ?_ ?_) | (refine call_det hO (by simp [argsD, argD, Off.s_unown]) rfl ?_) | (refine call_det hF (by simp [argsD, argD, Off.s_unown]) rfl ?_) | (with_reducible refine onI_bare ?_ ?_; focus (simp only [InR]; omega)) | (refine call_det hE (by simp [argsD, argD, Off.s_unown]) rfl ?_) | ((first | apply execG_split | apply execC_split | apply onPick_split) <;> intro h <;> try simp only [h]))
    all_goals exact mkR_no { o with cs := o.cs.map (relC v) } hM rfl
theorem findC_pos {o : Off} {id : Int} (h : decide (0 ≤ findC o.cs id) = true) : ∃ (i : Nat) (x : Cs), findC o.cs id = (i : Int) ∧ o.cs[i]? = some x := by
  rcases find_casesC o.cs id with ⟨_, hn⟩ | ⟨i, x, hi, hr, _⟩
  · rw [hn] at h; cases h
  · exact ⟨i, x, hi, hr⟩
theorem make6_fn (o : Off) (id a v : Int) (ho : offOK o = true) (hs : stepB o 6 id a v = true) : Fn prog 113 [o.s, stD 6 id a v] (MkR o 6 id a v) := by
  have hk1 : decide ((6 : Int) = 1) = false := rfl
  have hk2 : decide ((6 : Int) = 2) = false := rfl
  have hk3 : decide ((6 : Int) = 3) = false := rfl
  have hk4 : decide ((6 : Int) = 4) = false := rfl
  have hk5 : decide ((6 : Int) = 5) = false := rfl
  have hp := off_parts ho
  have ho0 := off_ok0 ho
  have hO := l25Own_fn o ho0
  have hF := l25Find_fn o id ho0
  have hd : True := trivial
  obtain ⟨i, x, hi, hr⟩ := findC_pos (o := o) (id := id) (by simp [stepB] at hs; exact decide_eq_true hs.1.1)
  have hE := l25Act_fn o i x ho hr
  rw [hi] at hF
  have hM0 : makeO o 6 id a v = if dealB o x = true then some (outO o i x) else none := by
    unfold makeO
    rw [if_neg (by decide), if_neg (by decide), if_neg (by decide), hi, Int.toNat_natCast, hr]
    simp
  have hwu := Off.w_unown (outO o i x)
  have hwV : ∀ q : Off, q.w.isV = true := fun _ => rfl
  have hwS : ∀ q : Off, q.w.size = 5 := fun _ => rfl
  have hwN := Off.w_noOwn
  have hwB : ∀ q : Off, q.w.isStB = true := fun _ => rfl
  generalize hq : outO o i x = q at hE hM0 hwu
  cases hc : dealB o x with
  | true =>
    have hM : makeO o 6 id a v = some q := by rw [hM0, if_pos hc]
    have hG := l25Good_fn _ (make_ok0 ho hM)
    rw [hc, Bool.true_and] at hE
    cases hk : offOK q with
    | true =>
      rw [hk] at hE hG
      refine Fn_ofg (ps := [[1, 0], [1, 0]]) (fn := f113) (by exact func113) c113 r113 (n := 118) (by rfl) (rv := [.cell 4 35, .tmp 5]) (by rfl) (by simp) ?_
      unfold m113
      try simp only [wQ]
      simp only [ghAll, ghAt]
      simp only [stD]
      repeat' (first | (simp only [Off.s_noOwn, Off.s_isV, onC_true, ↓wA, ↓wC, wB, frzBE, frzBS, reduceEqDiff, reduceAdd, reduceSub, reduceIte, reduceCtorEq, Nat.reduceBEq, reduceLT, sz35]) | ((first | apply execG_split | apply execC_split | apply onPick_split) <;> intro h <;> try simp only [h]))
      refine exec_gh1 (frzB 0 rfl) ?_
      simp only [frzBE, frzBS, Off.s_unown, ↓wA, ↓wC, wB, frzBE, frzBS, reduceEqDiff, reduceAdd, reduceSub, reduceIte, reduceCtorEq, Nat.reduceBEq, reduceLT, sz35]
      refine exec_gh1 (frzB 1 rfl) ?_
      simp only [frzBE, frzBS, D.unown, ↓wA, ↓wC, wB, frzBE, frzBS, reduceEqDiff, reduceAdd, reduceSub, reduceIte, reduceCtorEq, Nat.reduceBEq, reduceLT, sz35]
      have hf0 : ∀ K : SV → Prop, stepFa 0 0 (.d (.ptr o.s)) K = K (.d (.ptr (.int .i64 o.day))) := fun K => by simp [Off.s, offP, stepFa, D.pre, D.nth, D.size]
      have hf1 : ∀ K : SV → Prop, stepFa 1 1 (.d (.ptr o.s)) K = K (.d (.ptr (.sl false 4 (dl Cs.s o.cs)))) := fun K => by simp [Off.s, offP, stepFa, D.pre, D.nth, D.size]
      repeat' (first | (simp only [hwV, hwS, hwN, hwB, hk1, hk2, hk3, hk4, hk5, Off.s_noOwn, Off.s_isV, Off.s_size, css_noOwn, strs_noOwn, hf0, hf1, hd, ↓rd_off, onC_true, isStB_st, Int.toNat_natCast, Option.map_some, dl_len, dl_nth, ↓wA, ↓wC, wB, frzBE, frzBS, reduceEqDiff, reduceAdd, reduceSub, reduceIte, reduceCtorEq, Nat.reduceBEq, reduceLT, sz35]) | (refine onJ_q ?_) | (with_reducible refine And.intro ?_ ?_) | (refine call_det hO (by simp [argsD, argD, Off.s_unown]) rfl ?_) | (refine call_det hF (by simp [argsD, argD, Off.s_unown]) rfl ?_) | (with_reducible refine onI_bare ?_ ?_; focus (simp only [InR]; omega)) | (refine call_det hE (by simp [argsD, argD, Off.s_unown]) rfl ?_) | (refine call_det hG (congrArg (fun d : D => some [d]) hwu) rfl ?_) | (refine callP_det hG (congrArg (fun d : D => some [d]) hwu) rfl ?_) | ((first | apply execG_split | apply execC_split | apply onPick_split) <;> intro h <;> try simp only [h]))
      all_goals exact onO_i _ rfl (onC_i rfl (onC_i rfl (onC_i rfl (mkR_yes hM rfl hk.symm))))
    | false =>
      rw [hk] at hE hG
      refine Fn_ofg (ps := [[1, 0], [1, 0]]) (fn := f113) (by exact func113) c113 r113 (n := 118) (by rfl) (rv := [.cell 4 35, .tmp 5]) (by rfl) (by simp) ?_
      unfold m113
      try simp only [wQ]
      simp only [ghAll, ghAt]
      simp only [stD]
      repeat' (first | (simp only [Off.s_noOwn, Off.s_isV, onC_true, ↓wA, ↓wC, wB, frzBE, frzBS, reduceEqDiff, reduceAdd, reduceSub, reduceIte, reduceCtorEq, Nat.reduceBEq, reduceLT, sz35]) | ((first | apply execG_split | apply execC_split | apply onPick_split) <;> intro h <;> try simp only [h]))
      refine exec_gh1 (frzB 0 rfl) ?_
      simp only [frzBE, frzBS, Off.s_unown, ↓wA, ↓wC, wB, frzBE, frzBS, reduceEqDiff, reduceAdd, reduceSub, reduceIte, reduceCtorEq, Nat.reduceBEq, reduceLT, sz35]
      refine exec_gh1 (frzB 1 rfl) ?_
      simp only [frzBE, frzBS, D.unown, ↓wA, ↓wC, wB, frzBE, frzBS, reduceEqDiff, reduceAdd, reduceSub, reduceIte, reduceCtorEq, Nat.reduceBEq, reduceLT, sz35]
      have hf0 : ∀ K : SV → Prop, stepFa 0 0 (.d (.ptr o.s)) K = K (.d (.ptr (.int .i64 o.day))) := fun K => by simp [Off.s, offP, stepFa, D.pre, D.nth, D.size]
      have hf1 : ∀ K : SV → Prop, stepFa 1 1 (.d (.ptr o.s)) K = K (.d (.ptr (.sl false 4 (dl Cs.s o.cs)))) := fun K => by simp [Off.s, offP, stepFa, D.pre, D.nth, D.size]
      repeat' (first | (simp only [hwV, hwS, hwN, hwB, hk1, hk2, hk3, hk4, hk5, Off.s_noOwn, Off.s_isV, Off.s_size, css_noOwn, strs_noOwn, hf0, hf1, hd, ↓rd_off, onC_true, isStB_st, Int.toNat_natCast, Option.map_some, dl_len, dl_nth, ↓wA, ↓wC, wB, frzBE, frzBS, reduceEqDiff, reduceAdd, reduceSub, reduceIte, reduceCtorEq, Nat.reduceBEq, reduceLT, sz35]) | (refine onJ_q ?_) | (with_reducible refine And.intro ?_ ?_) | (refine call_det hO (by simp [argsD, argD, Off.s_unown]) rfl ?_) | (refine call_det hF (by simp [argsD, argD, Off.s_unown]) rfl ?_) | (with_reducible refine onI_bare ?_ ?_; focus (simp only [InR]; omega)) | (refine call_det hE (by simp [argsD, argD, Off.s_unown]) rfl ?_) | ((first | apply execG_split | apply execC_split | apply onPick_split) <;> intro h <;> try simp only [h]))
      all_goals exact onO_i _ rfl (onC_i rfl (onC_i rfl (onC_i rfl (mkR_yes hM rfl hk.symm))))
  | false =>
    have hM : makeO o 6 id a v = none := by rw [hM0, if_neg (by rw [hc]; decide)]
    rw [hc, Bool.false_and] at hE
    refine Fn_ofg (ps := [[1, 0], [1, 0]]) (fn := f113) (by exact func113) c113 r113 (n := 118) (by rfl) (rv := [.cell 4 35, .tmp 5]) (by rfl) (by simp) ?_
    unfold m113
    try simp only [wQ]
    simp only [ghAll, ghAt]
    simp only [stD]
    repeat' (first | (simp only [Off.s_noOwn, Off.s_isV, onC_true, ↓wA, ↓wC, wB, frzBE, frzBS, reduceEqDiff, reduceAdd, reduceSub, reduceIte, reduceCtorEq, Nat.reduceBEq, reduceLT, sz35]) | ((first | apply execG_split | apply execC_split | apply onPick_split) <;> intro h <;> try simp only [h]))
    refine exec_gh1 (frzB 0 rfl) ?_
    simp only [frzBE, frzBS, Off.s_unown, ↓wA, ↓wC, wB, frzBE, frzBS, reduceEqDiff, reduceAdd, reduceSub, reduceIte, reduceCtorEq, Nat.reduceBEq, reduceLT, sz35]
    refine exec_gh1 (frzB 1 rfl) ?_
    simp only [frzBE, frzBS, D.unown, ↓wA, ↓wC, wB, frzBE, frzBS, reduceEqDiff, reduceAdd, reduceSub, reduceIte, reduceCtorEq, Nat.reduceBEq, reduceLT, sz35]
    have hf0 : ∀ K : SV → Prop, stepFa 0 0 (.d (.ptr o.s)) K = K (.d (.ptr (.int .i64 o.day))) := fun K => by simp [Off.s, offP, stepFa, D.pre, D.nth, D.size]
    have hf1 : ∀ K : SV → Prop, stepFa 1 1 (.d (.ptr o.s)) K = K (.d (.ptr (.sl false 4 (dl Cs.s o.cs)))) := fun K => by simp [Off.s, offP, stepFa, D.pre, D.nth, D.size]
    repeat' (first | (simp only [hwV, hwS, hwN, hwB, hk1, hk2, hk3, hk4, hk5, Off.s_noOwn, Off.s_isV, Off.s_size, css_noOwn, strs_noOwn, hf0, hf1, hd, ↓rd_off, onC_true, isStB_st, Int.toNat_natCast, Option.map_some, dl_len, dl_nth, ↓wA, ↓wC, wB, frzBE, frzBS, reduceEqDiff, reduceAdd, reduceSub, reduceIte, reduceCtorEq, Nat.reduceBEq, reduceLT, sz35]) | (refine onJ_q ?_) | (with_reducible refine And.intro ?_ ?_) | (refine call_det hO (by simp [argsD, argD, Off.s_unown]) rfl ?_) | (refine call_det hF (by simp [argsD, argD, Off.s_unown]) rfl ?_) | (with_reducible refine onI_bare ?_ ?_; focus (simp only [InR]; omega)) | (refine call_det hE (by simp [argsD, argD, Off.s_unown]) rfl ?_) | ((first | apply execG_split | apply execC_split | apply onPick_split) <;> intro h <;> try simp only [h]))
    all_goals exact onO_i _ rfl (onC_i rfl (onC_i rfl (onC_i rfl (mkR_no q hM rfl))))
theorem make3_fn (o : Off) (id a v : Int) (ho : offOK o = true) (hs : stepB o 3 id a v = true) : Fn prog 113 [o.s, stD 3 id a v] (MkR o 3 id a v) := by
  have hk1 : decide ((3 : Int) = 1) = false := rfl
  have hk2 : decide ((3 : Int) = 2) = false := rfl
  have hk3 : decide ((3 : Int) = 3) = true := rfl
  have hk4 : decide ((3 : Int) = 4) = false := rfl
  have hk5 : decide ((3 : Int) = 5) = false := rfl
  have hp := off_parts ho
  have ho0 := off_ok0 ho
  have hO := l25Own_fn o ho0
  have hF := l25Find_fn o id ho0
  have hd : True := trivial
  obtain ⟨i, x, hi, hr⟩ := findC_pos (o := o) (id := id) (by simp [stepB] at hs; exact decide_eq_true hs.1.1)
  have hxc := case_parts (hp.2.2.2.2.2.2.2.2.2 x (List.mem_of_getElem? hr))
  have hH := l1Has_fn x.h v (by omega)
  have hi0 : (0 : Int) ≤ (i : Int) := by omega
  rw [hi] at hF
  have hM0 : makeO o 3 id a v = if x.h.contains v = true then none else some { o with cs := o.cs.set i { x with h := putI v x.h } } := by
    unfold makeO
    rw [if_neg (by decide), if_neg (by decide), if_neg (by decide), hi, Int.toNat_natCast, hr]
    simp
  have hgn : (dl Cs.s o.cs).nth i = some (x.p (.sl false 1 (dl iD x.h))) := by rw [dl_nth, hr]; rfl
  have hgs : ∀ (y : D), ((dl Cs.s o.cs).setN i y).nth i = some y := fun y => by rw [setN_nth, if_pos rfl, hgn]; rfl
  have hfx : ∀ K : SV → Prop, stepFa 3 3 (.d (.ptr x.s)) K = K (.d (.ptr (.sl false 1 (dl iD x.h)))) := fun K => fa_cs3
  cases hc : x.h.contains v with
  | true =>
    rw [hc] at hH
    have hM : makeO o 3 id a v = none := by rw [hM0, if_pos hc]
    refine Fn_ofg (ps := [[1, 0], [1, 0]]) (fn := f113) (by exact func113) c113 r113 (n := 118) (by rfl) (rv := [.cell 4 35, .tmp 5]) (by rfl) (by simp) ?_
    unfold m113
    try simp only [wQ]
    simp only [ghAll, ghAt]
    simp only [stD]
    repeat' (first | (simp only [Off.s_noOwn, Off.s_isV, onC_true, ↓wA, ↓wC, wB, frzBE, frzBS, reduceEqDiff, reduceAdd, reduceSub, reduceIte, reduceCtorEq, Nat.reduceBEq, reduceLT, sz35]) | ((first | apply execG_split | apply execC_split | apply onPick_split) <;> intro h <;> try simp only [h]))
    refine exec_gh1 (frzB 0 rfl) ?_
    simp only [frzBE, frzBS, Off.s_unown, ↓wA, ↓wC, wB, frzBE, frzBS, reduceEqDiff, reduceAdd, reduceSub, reduceIte, reduceCtorEq, Nat.reduceBEq, reduceLT, sz35]
    refine exec_gh1 (frzB 1 rfl) ?_
    simp only [frzBE, frzBS, D.unown, ↓wA, ↓wC, wB, frzBE, frzBS, reduceEqDiff, reduceAdd, reduceSub, reduceIte, reduceCtorEq, Nat.reduceBEq, reduceLT, sz35]
    have hf0 : ∀ K : SV → Prop, stepFa 0 0 (.d (.ptr o.s)) K = K (.d (.ptr (.int .i64 o.day))) := fun K => by simp [Off.s, offP, stepFa, D.pre, D.nth, D.size]
    have hf1 : ∀ K : SV → Prop, stepFa 1 1 (.d (.ptr o.s)) K = K (.d (.ptr (.sl false 4 (dl Cs.s o.cs)))) := fun K => by simp [Off.s, offP, stepFa, D.pre, D.nth, D.size]
    repeat' (first | (simp only [hk1, hk2, hk3, hk4, hk5, Off.s_noOwn, Off.s_isV, Off.s_size, Off.w, offP, css_noOwn, strs_noOwn, hf0, hf1, hd, ↓rd_off, onC_true, isStB_st, Int.toNat_natCast, Option.map_some, dl_len, dl_nth, hi0, hr, hfx, ints_noOwn, ↓wA, ↓wC, wB, frzBE, frzBS, reduceEqDiff, reduceAdd, reduceSub, reduceIte, reduceCtorEq, Nat.reduceBEq, reduceLT, sz35]) | (refine onJ_q ?_) | (with_reducible refine And.intro ?_ ?_) | (refine call_det hO (by simp [argsD, argD, Off.s_unown]) rfl ?_) | (refine call_det hF (by simp [argsD, argD, Off.s_unown]) rfl ?_) | (with_reducible refine onI_bare ?_ ?_; focus (simp only [InR]; omega)) | (refine call_det (hH) rfl rfl ?_) | (refine callP_det (hH) rfl rfl ?_) | ((first | apply execG_split | apply execC_split | apply onPick_split) <;> intro h <;> try simp only [h]))
    all_goals exact mkR_no o hM rfl
  | false =>
    rw [hc] at hH
    have hM : makeO o 3 id a v = some { o with cs := o.cs.set i { x with h := putI v x.h } } := by rw [hM0, if_neg (by rw [hc]; decide)]
    have hG := l25Good_fn _ (make_ok0 ho hM)
    have hnv : v ∉ x.h := fun h => by rw [List.contains_iff_mem.2 h] at hc; cases hc
    have hP : Fn prog 179 [.sl false 1 (dl iD x.h), .int .i64 v] (fun rs => rs = [.sl false 1 (dl iD (putI v x.h))]) := by
      simpa [D.unown, ints_unown] using Fn_unown (l1Put_fn x.h v (by omega) hnv)
    have hset : (dl Cs.s o.cs).setN i (x.p (.sl false 1 (dl iD (putI v x.h)))) = dl Cs.s (o.cs.set i { x with h := putI v x.h }) := by
      have e : x.p (.sl false 1 (dl iD (putI v x.h))) = Cs.s { x with h := putI v x.h } := rfl
      rw [e, dl_setN]
    have hu : (D.st (.cons (.int .i64 o.day) (.cons (.sl true 4 (dl Cs.s (o.cs.set i { x with h := putI v x.h }))) (.cons (.int .i64 o.kept) (.cons (.int .i64 o.moved) (.cons (.sl true 1 (dl D.str o.led)) .nil)))))).unown = Off.s { o with cs := o.cs.set i { x with h := putI v x.h } } := Off.w_unown { o with cs := o.cs.set i { x with h := putI v x.h } }
    refine Fn_ofg (ps := [[1, 1, 1, 0, 1, 0, 1, 1, 1, 1, 1, 0, 1], [1, 1, 1, 1, 0], [1, 0], [1, 0]]) (fn := f113) (by exact func113) c113 r113 (n := 118) (by rfl) (rv := [.cell 4 35, .tmp 5]) (by rfl) (by simp) ?_
    unfold m113
    try simp only [wQ]
    simp only [ghAll, ghAt]
    simp only [stD]
    repeat' (first | (simp only [Off.s_noOwn, Off.s_isV, onC_true, ↓wA, ↓wC, wB, frzBE, frzBS, reduceEqDiff, reduceAdd, reduceSub, reduceIte, reduceCtorEq, Nat.reduceBEq, reduceLT, sz35]) | ((first | apply execG_split | apply execC_split | apply onPick_split) <;> intro h <;> try simp only [h]))
    refine exec_gh1 (frzB 0 rfl) ?_
    simp only [frzBE, frzBS, Off.s_unown, ↓wA, ↓wC, wB, frzBE, frzBS, reduceEqDiff, reduceAdd, reduceSub, reduceIte, reduceCtorEq, Nat.reduceBEq, reduceLT, sz35]
    refine exec_gh1 (frzB 1 rfl) ?_
    simp only [frzBE, frzBS, D.unown, ↓wA, ↓wC, wB, frzBE, frzBS, reduceEqDiff, reduceAdd, reduceSub, reduceIte, reduceCtorEq, Nat.reduceBEq, reduceLT, sz35]
    have hf0 : ∀ K : SV → Prop, stepFa 0 0 (.d (.ptr o.s)) K = K (.d (.ptr (.int .i64 o.day))) := fun K => by simp [Off.s, offP, stepFa, D.pre, D.nth, D.size]
    have hf1 : ∀ K : SV → Prop, stepFa 1 1 (.d (.ptr o.s)) K = K (.d (.ptr (.sl false 4 (dl Cs.s o.cs)))) := fun K => by simp [Off.s, offP, stepFa, D.pre, D.nth, D.size]
    repeat' (first | (simp only [hk1, hk2, hk3, hk4, hk5, Off.s_noOwn, Off.s_isV, Off.s_size, Off.w, offP, css_noOwn, strs_noOwn, hf0, hf1, hd, ↓rd_off, onC_true, isStB_st, Int.toNat_natCast, Option.map_some, dl_len, dl_nth, hi0, hr, hfx, ints_noOwn, ↓wA, ↓wC, wB, frzBE, frzBS, reduceEqDiff, reduceAdd, reduceSub, reduceIte, reduceCtorEq, Nat.reduceBEq, reduceLT, sz35]) | (refine onJ_q ?_) | (with_reducible refine And.intro ?_ ?_) | (refine call_det hO (by simp [argsD, argD, Off.s_unown]) rfl ?_) | (refine call_det hF (by simp [argsD, argD, Off.s_unown]) rfl ?_) | (with_reducible refine onI_bare ?_ ?_; focus (simp only [InR]; omega)) | (refine call_det (hH) rfl rfl ?_) | (refine callP_det (hH) rfl rfl ?_) | ((first | apply execG_split | apply execC_split | apply onPick_split) <;> intro h <;> try simp only [h]))
    refine exec_gh _ (unlink 4 none [1] (es := 4) (xs := dl Cs.s o.cs) rfl rfl) fun v1 => ?_
    simp only [obSet, ↓wA, ↓wC, wB, frzBE, frzBS, reduceEqDiff, reduceAdd, reduceSub, reduceIte, reduceCtorEq, Nat.reduceBEq, reduceLT, sz35]
    repeat' (first | (simp only [hk1, hk2, hk3, hk4, hk5, Off.s_noOwn, Off.s_isV, Off.s_size, Off.w, offP, css_noOwn, strs_noOwn, hf0, hf1, hd, ↓rd_off, onC_true, isStB_st, Int.toNat_natCast, Option.map_some, dl_len, hi0, hgn, hgs, ints_noOwn, doff_q3, dget_q3, dset_q3, hset, ↓wA, ↓wC, wB, frzBE, frzBS, reduceEqDiff, reduceAdd, reduceSub, reduceIte, reduceCtorEq, Nat.reduceBEq, reduceLT, sz35]) | (refine onJ_q ?_) | (with_reducible refine And.intro ?_ ?_) | (refine call_det hO (by simp [argsD, argD, Off.s_unown]) rfl ?_) | (refine call_det hF (by simp [argsD, argD, Off.s_unown]) rfl ?_) | (with_reducible refine onI_bare ?_ ?_; focus (simp only [InR]; omega)) | (refine call_det (hP) rfl rfl ?_) | (refine callP_det (hP) rfl rfl ?_) | ((first | apply execG_split | apply execC_split | apply onPick_split) <;> intro h <;> try simp only [h]))
    refine exec_gh1 (relink 4 6 5 none [1] rfl rfl rfl rfl (by decide) rfl) ?_
    simp only [obSet, ↓wA, ↓wC, wB, frzBE, frzBS, reduceEqDiff, reduceAdd, reduceSub, reduceIte, reduceCtorEq, Nat.reduceBEq, reduceLT, sz35]
    repeat' (first | (simp only [hk1, hk2, hk3, hk4, hk5, Off.s_noOwn, Off.s_isV, Off.s_size, Off.w, offP, css_noOwn, strs_noOwn, hf0, hf1, hd, ↓rd_off, onC_true, isStB_st, Int.toNat_natCast, Option.map_some, dl_len, ↓wA, ↓wC, wB, frzBE, frzBS, reduceEqDiff, reduceAdd, reduceSub, reduceIte, reduceCtorEq, Nat.reduceBEq, reduceLT, sz35]) | (refine onJ_q ?_) | (with_reducible refine And.intro ?_ ?_) | (refine call_det hO (by simp [argsD, argD, Off.s_unown]) rfl ?_) | (refine call_det hF (by simp [argsD, argD, Off.s_unown]) rfl ?_) | (with_reducible refine onI_bare ?_ ?_; focus (simp only [InR]; omega)) | (refine call_det hG (congrArg (fun d : D => some [d]) hu) rfl ?_) | (refine callP_det hG (congrArg (fun d : D => some [d]) hu) rfl ?_) | ((first | apply execG_split | apply execC_split | apply onPick_split) <;> intro h <;> try simp only [h]))
    all_goals exact mkR_yes hM rfl rfl
theorem make5_fn (o : Off) (id a v : Int) (ho : offOK o = true) (hs : stepB o 5 id a v = true) : Fn prog 113 [o.s, stD 5 id a v] (MkR o 5 id a v) := by
  have hk1 : decide ((5 : Int) = 1) = false := rfl
  have hk2 : decide ((5 : Int) = 2) = false := rfl
  have hk3 : decide ((5 : Int) = 3) = false := rfl
  have hk4 : decide ((5 : Int) = 4) = false := rfl
  have hk5 : decide ((5 : Int) = 5) = true := rfl
  have hp := off_parts ho
  have ho0 := off_ok0 ho
  have hO := l25Own_fn o ho0
  have hF := l25Find_fn o id ho0
  have hv : 1 ≤ v := by simp [stepB] at hs; exact hs.2
  obtain ⟨i, x, hi, hr⟩ := findC_pos (o := o) (id := id) (by simp [stepB] at hs; exact decide_eq_true hs.1.1)
  have hxc := case_parts (hp.2.2.2.2.2.2.2.2.2 x (List.mem_of_getElem? hr))
  have hi0 : (0 : Int) ≤ (i : Int) := by omega
  rw [hi] at hF
  have hM0 : makeO o 5 id a v = if v > 20000 - x.d then none else some { o with cs := o.cs.set i { x with d := x.d + v } } := by
    unfold makeO
    rw [if_neg (by decide), if_neg (by decide), if_neg (by decide), hi, Int.toNat_natCast, hr]
    simp
  have hgn : (dl Cs.s o.cs).nth i = some (x.p (.sl false 1 (dl iD x.h))) := by rw [dl_nth, hr]; rfl
  have hgs : ∀ (y : D), ((dl Cs.s o.cs).setN i y).nth i = some y := fun y => by rw [setN_nth, if_pos rfl, hgn]; rfl
  have hfx : ∀ K : SV → Prop, stepFa 2 2 (.d (.ptr x.s)) K = K (.d (.ptr (.int .i64 x.d))) := fun K => fa_cs2
  have hfx' : ∀ K : SV → Prop, stepFa 2 2 (.d (.ptr (x.p (.sl false 1 (dl iD x.h))))) K = K (.d (.ptr (.int .i64 x.d))) := fun K => fa_cs2
  cases hd : decide (20000 - x.d < v) with
  | true =>
    have hM : makeO o 5 id a v = none := by rw [hM0, if_pos (of_decide_eq_true hd)]
    refine Fn_ofg (ps := [[1, 0], [1, 0]]) (fn := f113) (by exact func113) c113 r113 (n := 118) (by rfl) (rv := [.cell 4 35, .tmp 5]) (by rfl) (by simp) ?_
    unfold m113
    try simp only [wQ]
    simp only [ghAll, ghAt]
    simp only [stD]
    repeat' (first | (simp only [Off.s_noOwn, Off.s_isV, onC_true, ↓wA, ↓wC, wB, frzBE, frzBS, reduceEqDiff, reduceAdd, reduceSub, reduceIte, reduceCtorEq, Nat.reduceBEq, reduceLT, sz35]) | ((first | apply execG_split | apply execC_split | apply onPick_split) <;> intro h <;> try simp only [h]))
    refine exec_gh1 (frzB 0 rfl) ?_
    simp only [frzBE, frzBS, Off.s_unown, ↓wA, ↓wC, wB, frzBE, frzBS, reduceEqDiff, reduceAdd, reduceSub, reduceIte, reduceCtorEq, Nat.reduceBEq, reduceLT, sz35]
    refine exec_gh1 (frzB 1 rfl) ?_
    simp only [frzBE, frzBS, D.unown, ↓wA, ↓wC, wB, frzBE, frzBS, reduceEqDiff, reduceAdd, reduceSub, reduceIte, reduceCtorEq, Nat.reduceBEq, reduceLT, sz35]
    have hf0 : ∀ K : SV → Prop, stepFa 0 0 (.d (.ptr o.s)) K = K (.d (.ptr (.int .i64 o.day))) := fun K => by simp [Off.s, offP, stepFa, D.pre, D.nth, D.size]
    have hf1 : ∀ K : SV → Prop, stepFa 1 1 (.d (.ptr o.s)) K = K (.d (.ptr (.sl false 4 (dl Cs.s o.cs)))) := fun K => by simp [Off.s, offP, stepFa, D.pre, D.nth, D.size]
    repeat' (first | (simp only [hk1, hk2, hk3, hk4, hk5, Off.s_noOwn, Off.s_isV, Off.s_size, Off.w, offP, css_noOwn, strs_noOwn, hf0, hf1, hd, ↓rd_off, onC_true, isStB_st, Int.toNat_natCast, Option.map_some, dl_len, dl_nth, hi0, hr, hfx, ints_noOwn, ↓wA, ↓wC, wB, frzBE, frzBS, reduceEqDiff, reduceAdd, reduceSub, reduceIte, reduceCtorEq, Nat.reduceBEq, reduceLT, sz35]) | (refine onJ_q ?_) | (with_reducible refine And.intro ?_ ?_) | (refine call_det hO (by simp [argsD, argD, Off.s_unown]) rfl ?_) | (refine call_det hF (by simp [argsD, argD, Off.s_unown]) rfl ?_) | (with_reducible refine onI_bare ?_ ?_; focus (simp only [InR]; omega)) | ((first | apply execG_split | apply execC_split | apply onPick_split) <;> intro h <;> try simp only [h]))
    all_goals exact mkR_no o hM rfl
  | false =>
    have hd' := of_decide_eq_false hd
    have hM : makeO o 5 id a v = some { o with cs := o.cs.set i { x with d := x.d + v } } := by rw [hM0, if_neg (of_decide_eq_false hd)]
    have hG := l25Good_fn _ (make_ok0 ho hM)
    have hset : (dl Cs.s o.cs).setN i (Cs.p { x with d := x.d + v } (.sl false 1 (dl iD x.h))) = dl Cs.s (o.cs.set i { x with d := x.d + v }) := by
      have e : Cs.p { x with d := x.d + v } (.sl false 1 (dl iD x.h)) = Cs.s { x with d := x.d + v } := rfl
      rw [e, dl_setN]
    have hu : (D.st (.cons (.int .i64 o.day) (.cons (.sl true 4 (dl Cs.s (o.cs.set i { x with d := x.d + v }))) (.cons (.int .i64 o.kept) (.cons (.int .i64 o.moved) (.cons (.sl true 1 (dl D.str o.led)) .nil)))))).unown = Off.s { o with cs := o.cs.set i { x with d := x.d + v } } := Off.w_unown { o with cs := o.cs.set i { x with d := x.d + v } }
    refine Fn_ofg (ps := [[1, 1, 1, 0, 1, 0, 1, 1, 1, 1, 1, 1, 1, 1, 1, 0, 1], [1, 1, 1, 1, 0], [1, 0], [1, 0]]) (fn := f113) (by exact func113) c113 r113 (n := 118) (by rfl) (rv := [.cell 4 35, .tmp 5]) (by rfl) (by simp) ?_
    unfold m113
    try simp only [wQ]
    simp only [ghAll, ghAt]
    simp only [stD]
    repeat' (first | (simp only [Off.s_noOwn, Off.s_isV, onC_true, ↓wA, ↓wC, wB, frzBE, frzBS, reduceEqDiff, reduceAdd, reduceSub, reduceIte, reduceCtorEq, Nat.reduceBEq, reduceLT, sz35]) | ((first | apply execG_split | apply execC_split | apply onPick_split) <;> intro h <;> try simp only [h]))
    refine exec_gh1 (frzB 0 rfl) ?_
    simp only [frzBE, frzBS, Off.s_unown, ↓wA, ↓wC, wB, frzBE, frzBS, reduceEqDiff, reduceAdd, reduceSub, reduceIte, reduceCtorEq, Nat.reduceBEq, reduceLT, sz35]
    refine exec_gh1 (frzB 1 rfl) ?_
    simp only [frzBE, frzBS, D.unown, ↓wA, ↓wC, wB, frzBE, frzBS, reduceEqDiff, reduceAdd, reduceSub, reduceIte, reduceCtorEq, Nat.reduceBEq, reduceLT, sz35]
    have hf0 : ∀ K : SV → Prop, stepFa 0 0 (.d (.ptr o.s)) K = K (.d (.ptr (.int .i64 o.day))) := fun K => by simp [Off.s, offP, stepFa, D.pre, D.nth, D.size]
    have hf1 : ∀ K : SV → Prop, stepFa 1 1 (.d (.ptr o.s)) K = K (.d (.ptr (.sl false 4 (dl Cs.s o.cs)))) := fun K => by simp [Off.s, offP, stepFa, D.pre, D.nth, D.size]
    repeat' (first | (simp only [hk1, hk2, hk3, hk4, hk5, Off.s_noOwn, Off.s_isV, Off.s_size, Off.w, offP, css_noOwn, strs_noOwn, hf0, hf1, hd, ↓rd_off, onC_true, isStB_st, Int.toNat_natCast, Option.map_some, dl_len, dl_nth, hi0, hr, hfx, ints_noOwn, ↓wA, ↓wC, wB, frzBE, frzBS, reduceEqDiff, reduceAdd, reduceSub, reduceIte, reduceCtorEq, Nat.reduceBEq, reduceLT, sz35]) | (refine onJ_q ?_) | (with_reducible refine And.intro ?_ ?_) | (refine call_det hO (by simp [argsD, argD, Off.s_unown]) rfl ?_) | (refine call_det hF (by simp [argsD, argD, Off.s_unown]) rfl ?_) | (with_reducible refine onI_bare ?_ ?_; focus (simp only [InR]; omega)) | ((first | apply execG_split | apply execC_split | apply onPick_split) <;> intro h <;> try simp only [h]))
    refine exec_gh _ (unlink 4 none [1] (es := 4) (xs := dl Cs.s o.cs) rfl rfl) fun v1 => ?_
    simp only [obSet, ↓wA, ↓wC, wB, frzBE, frzBS, reduceEqDiff, reduceAdd, reduceSub, reduceIte, reduceCtorEq, Nat.reduceBEq, reduceLT, sz35]
    repeat' (first | (simp only [hk1, hk2, hk3, hk4, hk5, Off.s_noOwn, Off.s_isV, Off.s_size, Off.w, offP, css_noOwn, strs_noOwn, hf0, hf1, hd, ↓rd_off, onC_true, isStB_st, Int.toNat_natCast, Option.map_some, dl_len, hi0, hr, hfx, hfx', hgn, hgs, ints_noOwn, doff_q2, dget_q2, dset_q2, hset, ↓wA, ↓wC, wB, frzBE, frzBS, reduceEqDiff, reduceAdd, reduceSub, reduceIte, reduceCtorEq, Nat.reduceBEq, reduceLT, sz35]) | (refine onJ_q ?_) | (with_reducible refine And.intro ?_ ?_) | (refine call_det hO (by simp [argsD, argD, Off.s_unown]) rfl ?_) | (refine call_det hF (by simp [argsD, argD, Off.s_unown]) rfl ?_) | (with_reducible refine onI_bare ?_ ?_; focus (simp only [InR]; omega)) | ((first | apply execG_split | apply execC_split | apply onPick_split) <;> intro h <;> try simp only [h]))
    refine exec_gh1 (relink 4 6 5 none [1] rfl rfl rfl rfl (by decide) rfl) ?_
    simp only [obSet, ↓wA, ↓wC, wB, frzBE, frzBS, reduceEqDiff, reduceAdd, reduceSub, reduceIte, reduceCtorEq, Nat.reduceBEq, reduceLT, sz35]
    repeat' (first | (simp only [hk1, hk2, hk3, hk4, hk5, Off.s_noOwn, Off.s_isV, Off.s_size, Off.w, offP, css_noOwn, strs_noOwn, hf0, hf1, hd, ↓rd_off, onC_true, isStB_st, Int.toNat_natCast, Option.map_some, dl_len, ↓wA, ↓wC, wB, frzBE, frzBS, reduceEqDiff, reduceAdd, reduceSub, reduceIte, reduceCtorEq, Nat.reduceBEq, reduceLT, sz35]) | (refine onJ_q ?_) | (with_reducible refine And.intro ?_ ?_) | (refine call_det hO (by simp [argsD, argD, Off.s_unown]) rfl ?_) | (refine call_det hF (by simp [argsD, argD, Off.s_unown]) rfl ?_) | (with_reducible refine onI_bare ?_ ?_; focus (simp only [InR]; omega)) | (refine call_det hG (congrArg (fun d : D => some [d]) hu) rfl ?_) | (refine callP_det hG (congrArg (fun d : D => some [d]) hu) rfl ?_) | ((first | apply execG_split | apply execC_split | apply onPick_split) <;> intro h <;> try simp only [h]))
    all_goals exact mkR_yes hM rfl rfl
theorem l25Make_fn (o : Off) (k id a v : Int) (ho : offOK o = true) (hs : stepB o k id a v = true) : Fn prog 113 [o.s, stD k id a v] (MkR o k id a v) := by
  by_cases h1 : k = 1
  · subst h1; exact make1_fn o id a v ho hs
  by_cases h2 : k = 2
  · subst h2; exact make2_fn o id a v ho hs
  by_cases h3 : k = 3
  · subst h3; exact make3_fn o id a v ho hs
  by_cases h4 : k = 4
  · subst h4; exact make4_fn o id a v ho hs
  by_cases h5 : k = 5
  · subst h5; exact make5_fn o id a v ho hs
  have h6 : k = 6 := by
    unfold stepB at hs
    rw [if_neg h1, if_neg h2, if_neg h3, if_neg h4, if_neg h5] at hs
    simp only [Bool.and_eq_true, decide_eq_true_eq] at hs
    exact hs.1.1.1
  subst h6; exact make6_fn o id a v ho hs
end Go.Pe.Tryz
set_option maxRecDepth 100000
set_option maxHeartbeats 4000000
set_option linter.all false
namespace Go.Pe.Tryz
open Nat (reduceEqDiff reduceAdd reduceSub reduceLT)
open Go.Proofs.Tryz
theorem offZ_ok0 : offZ.ok0 := ⟨⟨by decide, fun x hx => by cases hx⟩, by decide, fun s hs => by cases hs⟩
def stepX (o : Off) (k id a v : Int) : Off := (stepR o k id a v).getD offZ
def stepY (o : Off) (k id a v : Int) : Bool := (stepR o k id a v).isSome
theorem stepX_ok0 (o : Off) (k id a v : Int) : (stepX o k id a v).ok0 := by
  unfold stepX
  cases h : stepR o k id a v with
  | none => exact offZ_ok0
  | some q => exact off_ok0 (stepR_ok h)
theorem implStepX_fn (o : Off) (k id a v : Int) (ho : o.ok0) : Fn prog 37 [o.s, stD k id a v] (fun rs => rs = [(stepX o k id a v).o, .bool (stepY o k id a v)]) := by
  have h := implStep_fn o k id a v ho
  unfold stepX stepY
  cases hq : stepR o k id a v with
  | none => rw [hq] at h; exact h
  | some q => rw [hq] at h; exact h
theorem specStepW_fn (o : Off) (k id a v : Int) (ho : o.ok0) : Fn prog 38 [o.s, stD k id a v] (fun rs => rs = [(stepX o k id a v).w, .bool (stepY o k id a v)]) := by
  have hG := l25Good_fn o ho
  have hS := l25Step_fn o k id a v ho
  have hE := specR_eq o k id a v
  cases hv : offOK o with
  | false =>
    have hR : stepR o k id a v = none := by rw [← hE]; unfold specR; rw [hv]; rfl
    rw [hv] at hG
    have hX : stepX o k id a v = offZ := by unfold stepX; rw [hR]; rfl
    have hY : stepY o k id a v = false := by unfold stepY; rw [hR]; rfl
    rw [hX, hY]
    refine Fn_of' (fn := f38) (by exact func38) c38 r38 (n := 28) (by rfl) (rv := [.cell 4 35, .tmp 5]) (by rfl) (by simp) ?_
    unfold m38
    try simp only [wQ]
    simp only [stD]
    repeat' (first | (simp only [Off.s_noOwn, Off.s_isV, Off.s_size, ↓rd_off, onC_true, ↓wA, ↓wC, wB, frzBE, frzBS, reduceEqDiff, reduceAdd, reduceSub, reduceIte, reduceCtorEq, Nat.reduceBEq, reduceLT, sz35]) | (refine call_det hG (by simp [argsD, argD, Off.s_unown]) rfl ?_) | ((first | apply execG_split | apply execC_split | apply onPick_split) <;> intro h <;> try simp only [h]))
    all_goals rfl
  | true =>
    rw [hv] at hG
    cases hb : stepB o k id a v with
    | false =>
      have hR : stepR o k id a v = none := by rw [← hE]; unfold specR; rw [hv, hb]; rfl
      rw [hb] at hS
      have hX : stepX o k id a v = offZ := by unfold stepX; rw [hR]; rfl
      have hY : stepY o k id a v = false := by unfold stepY; rw [hR]; rfl
      rw [hX, hY]
      refine Fn_of' (fn := f38) (by exact func38) c38 r38 (n := 28) (by rfl) (rv := [.cell 4 35, .tmp 5]) (by rfl) (by simp) ?_
      unfold m38
      try simp only [wQ]
      simp only [stD] at hS ⊢
      repeat' (first | (simp only [Off.s_noOwn, Off.s_isV, Off.s_size, ↓rd_off, onC_true, ↓wA, ↓wC, wB, frzBE, frzBS, reduceEqDiff, reduceAdd, reduceSub, reduceIte, reduceCtorEq, Nat.reduceBEq, reduceLT, sz35]) | (refine call_det hG (by simp [argsD, argD, Off.s_unown]) rfl ?_) | (refine call_det hS (by simp [argsD, argD, Off.s_unown]) rfl ?_) | ((first | apply execG_split | apply execC_split | apply onPick_split) <;> intro h <;> try simp only [h]))
      all_goals rfl
    | true =>
      have hR : stepR o k id a v = makeR o k id a v := by rw [← hE]; unfold specR; rw [hv, hb]; rfl
      rw [hb] at hS
      have hM := l25Make_fn o k id a v hv hb
      refine Fn_of' (fn := f38) (by exact func38) c38 r38 (n := 28) (by rfl) (rv := [.cell 4 35, .tmp 5]) (by rfl) (by simp) ?_
      unfold m38
      try simp only [wQ]
      simp only [stD] at hS hM ⊢
      repeat' (first | (simp only [Off.s_noOwn, Off.s_isV, Off.s_size, ↓rd_off, onC_true, ↓wA, ↓wC, wB, frzBE, frzBS, reduceEqDiff, reduceAdd, reduceSub, reduceIte, reduceCtorEq, Nat.reduceBEq, reduceLT, sz35]) | (refine call_det hG (by simp [argsD, argD, Off.s_unown]) rfl ?_) | (refine call_det hS (by simp [argsD, argD, Off.s_unown]) rfl ?_) | ((first | apply execG_split | apply execC_split | apply onPick_split) <;> intro h <;> try simp only [h]))
      refine call_rel hM (by simp [argsD, argD, Off.s_unown]) fun rs h => ?_
      obtain ⟨q, rfl, hq⟩ := h
      have hwV : q.w.isV = true := rfl
      have hwS : q.w.size = 5 := rfl
      refine ⟨.inl rfl, ?_⟩
      unfold stepX stepY
      rw [hR]
      cases hm : makeR o k id a v with
      | none =>
        repeat' (first | (simp only [Off.w_noOwn, hwV, hwS, onC_true, Option.isSome_none, ↓wA, ↓wC, wB, frzBE, frzBS, reduceEqDiff, reduceAdd, reduceSub, reduceIte, reduceCtorEq, Nat.reduceBEq, reduceLT, sz35]) | ((first | apply execG_split | apply execC_split | apply onPick_split) <;> intro h <;> try simp only [h]))
        all_goals rfl
      | some q' =>
        obtain rfl := hq q' hm
        repeat' (first | (simp only [Off.w_noOwn, hwV, hwS, onC_true, Option.isSome_some, ↓wA, ↓wC, wB, frzBE, frzBS, reduceEqDiff, reduceAdd, reduceSub, reduceIte, reduceCtorEq, Nat.reduceBEq, reduceLT, sz35]) | ((first | apply execG_split | apply execC_split | apply onPick_split) <;> intro h <;> try simp only [h]))
        all_goals exact onC_i rfl (onO_i _ rfl (onC_i rfl (onC_i rfl (onC_i rfl rfl))))
theorem specStepX_fn (o : Off) (k id a v : Int) (ho : o.ok0) : Fn prog 38 [o.s, stD k id a v] (fun rs => rs = [(stepX o k id a v).s, .bool (stepY o k id a v)]) := by
  simpa [D.unown, Off.w_unown] using Fn_unown (specStepW_fn o k id a v ho)
end Go.Pe.Tryz
