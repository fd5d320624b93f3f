/- A case of an office by its number, its text, walked; the law of CaseText. -/
import Derived.Test.YtmklnnagndckpaaDoorW2
set_option maxRecDepth 100000
set_option maxHeartbeats 4000000
set_option linter.all false
namespace Go.Pe.Tryd
open Go.Proofs.Tryd
/-- indexFuncC: the first element of which a test holds. -/
theorem indexFuncC_fn (p : Cs → Bool) (g : Nat) (c : D) (xs : List Cs) (hc : c.caps = true) (he : enterOK prog.P g = true) (hlen : xs.length ≤ 1048576) (hp : ∀ x ∈ xs, Fn prog g (Cs.s x :: c.list) (fun rs => rs = [.bool (p x)])) :
    Fn prog 76 [.sl false 4 (dl Cs.s xs), .clo g c] (fun rs => rs = [.int .i64 (idxOf p xs)]) := by
  refine Fn_of' (fn := f76) (by exact func76) c76 r76 (n := 19) (by rfl) (rv := [.tmp 4]) (by rfl) (by simp) ?_
  unfold m76
  simp only [dl_len, ↓wA, ↓wC, wB, frzBE, frzBS, Nat.reduceEqDiff, Nat.reduceAdd, Nat.reduceSub, reduceIte, reduceCtorEq, Nat.reduceBEq, Nat.reduceLT, decide_true]
  refine exec_range xs.length (fun i : Nat => ⟨[(0, .d (.sl false 4 (dl Cs.s xs))), (1, .d (.clo g c)), (7, .d (.int .i64 xs.length)), (8, .d (.int .i64 i))], []⟩) (fun i => ∀ j r, j < i → xs[j]? = some r → p r = false) (weak_of _ rfl ⟨⟨rfl, rfl⟩, ⟨rfl, rfl⟩, ⟨rfl, rfl⟩, ⟨rfl, rfl⟩, trivial⟩) (fun j r hj => by omega) ?_ ?_
  · intro i hlt hinv hd h0
    obtain ⟨r, hr⟩ := get_lt hlt
    have hcl := hp r (List.mem_of_getElem? hr)
    simp only [hd, h0, dl_nth, Int.toNat_natCast, hr, Option.map_some, onC_true, ↓rd_cs, ↓wA, ↓wC, wB, frzBE, frzBS, Nat.reduceEqDiff, Nat.reduceAdd, Nat.reduceSub, reduceIte, reduceCtorEq, Nat.reduceBEq, Nat.reduceLT, decide_true]
    refine callW_det (ds := [Cs.s r]) hcl he hc (by simp [argsD, argD, valOf, Cs.s_unown]) rfl ?_
    cases hpr : p r with
    | true =>
      simp only [↓wA, ↓wC, wB, frzBE, frzBS, Nat.reduceEqDiff, Nat.reduceAdd, Nat.reduceSub, reduceIte, reduceCtorEq, Nat.reduceBEq, Nat.reduceLT, decide_true]
      rw [idxOf_hit hr hpr hinv]
    | false =>
      simp only [↓wA, ↓wC, wB, frzBE, frzBS, Nat.reduceEqDiff, Nat.reduceAdd, Nat.reduceSub, reduceIte, reduceCtorEq, Nat.reduceBEq, Nat.reduceLT, decide_true]
      refine onI_bare (by simp only [InR]; omega) ?_
      refine next_range (weak_of _ rfl ⟨⟨rfl, rfl⟩, ⟨rfl, rfl⟩, ⟨rfl, rfl⟩, ⟨rfl, rfl⟩, trivial⟩) hlt fun j s hj hs => ?_
      by_cases e : j = i
      · subst e; rw [hr] at hs; injection hs with hs; rw [← hs]; exact hpr
      · exact hinv j s (by omega) hs
  · intro hinv hd
    simp only [hd, ↓wA, ↓wC, wB, frzBE, frzBS, Nat.reduceEqDiff, Nat.reduceAdd, Nat.reduceSub, reduceIte, reduceCtorEq, Nat.reduceBEq, Nat.reduceLT, decide_true]
    rw [idxOf_none fun j r hj => hinv j r (lt_of_get hj) hj]
def findC (xs : List Cs) (id : Int) : Int := idxOf (fun x : Cs => decide (x.i = id)) xs
theorem find_casesC (xs : List Cs) (id : Int) : (decide (findC xs id < 0) = true ∧ decide (0 ≤ findC xs id) = false) ∨ ∃ (i : Nat) (x : Cs), findC xs id = (i : Int) ∧ xs[i]? = some x ∧ x.i = id := by
  by_cases h : 0 ≤ findC xs id
  · obtain ⟨i, x, h1, h2, h3⟩ := idxOf_ge h
    exact .inr ⟨i, x, h1, h2, by simpa using h3⟩
  · exact .inl ⟨decide_eq_true (by omega), decide_eq_false h⟩
theorem doff_o1 {x : Off} : doff [1] x.s = 1 := rfl
theorem dget_o1 {x : Off} : dget [1] x.s = some (.sl false 4 (dl Cs.s x.cs)) := rfl
theorem caseClo_fn (x : Cs) (id : Int) : Fn prog 77 [x.s, .ptr (.int .i64 id)] (fun rs => rs = [.bool (decide (x.i = id))]) := by
  refine Fn_of' (fn := f77) (by exact func77) c77 r77 (n := 8) (by rfl) (rv := [.tmp 3]) (by rfl) (by simp) ?_
  unfold m77
  simp only [Cs.s, Cs.p]
  repeat' (first
      | (simp only [ints_noOwn, onC_true, ↓wA, ↓wC, wB, frzBE, frzBS, Nat.reduceEqDiff, Nat.reduceAdd, Nat.reduceSub, reduceIte, reduceCtorEq, Nat.reduceBEq, Nat.reduceLT, decide_true])
      | (refine execG_split (fun h => ?_) (fun h => ?_) <;> simp only [h])
      | (refine execC_split (fun h => ?_) (fun h => ?_) <;> (try simp only [h]))
      | (refine onPick_split (fun h => ?_) (fun h => ?_) <;> (try simp only [h])))
theorem caseAt_fn (o : Off) (id : Int) (ho : o.ok0) : Fn prog 53 [o.s, .int .i64 id] (fun rs => rs = [.int .i64 (findC o.cs id)]) := by
  have h := indexFuncC_fn (fun x => decide (x.i = id)) 77 (.cons (.ptr (.int .i64 id)) .nil) o.cs rfl en77 ho.1.1 (fun x _ => caseClo_fn x id)
  refine Fn_ofg (ps := [[1, 0]]) (fn := f53) (by exact func53) c53 r53 (n := 9) (by rfl) (rv := [.tmp 4]) (by rfl) (by simp) ?_
  unfold m53
  simp only [ghAll, ghAt]
  repeat' (first
      | (simp only [Off.s_noOwn, Off.s_isV, onC_true, ↓wA, ↓wC, wB, frzBE, frzBS, Nat.reduceEqDiff, Nat.reduceAdd, Nat.reduceSub, reduceIte, reduceCtorEq, Nat.reduceBEq, Nat.reduceLT, decide_true])
      | (refine execG_split (fun h => ?_) (fun h => ?_) <;> simp only [h])
      | (refine execC_split (fun h => ?_) (fun h => ?_) <;> (try simp only [h]))
      | (refine onPick_split (fun h => ?_) (fun h => ?_) <;> (try simp only [h])))
  refine exec_gh1 (frzB 1 rfl) ?_
  repeat' (first
      | (simp only [Off.s_noOwn, Off.s_isV, ↓rd_off, onC_true, css_noOwn, doff_o1, dget_o1, ↓wA, ↓wC, wB, frzBE, frzBS, Nat.reduceEqDiff, Nat.reduceAdd, Nat.reduceSub, reduceIte, reduceCtorEq, Nat.reduceBEq, Nat.reduceLT, decide_true])
      | (refine call_det (h) rfl rfl ?_)
      | (refine callP_det (h) rfl rfl ?_)
      | (refine execG_split (fun h => ?_) (fun h => ?_) <;> simp only [h])
      | (refine execC_split (fun h => ?_) (fun h => ?_) <;> (try simp only [h]))
      | (refine onPick_split (fun h => ?_) (fun h => ?_) <;> (try simp only [h])))
  all_goals rfl
theorem l25Find_fn (o : Off) (id : Int) (ho : o.ok0) : Fn prog 51 [o.s, .int .i64 id] (fun rs => rs = [.int .i64 (findC o.cs id)]) := by
  have hlen := ho.1.1
  refine Fn_of' (fn := f51) (by exact func51) c51 r51 (n := 22) (by rfl) (rv := [.tmp 4]) (by rfl) (by simp) ?_
  unfold m51
  repeat' (first
      | (simp only [Off.s_noOwn, Off.s_isV, onC_true, ↓wA, ↓wC, wB, frzBE, frzBS, Nat.reduceEqDiff, Nat.reduceAdd, Nat.reduceSub, reduceIte, reduceCtorEq, Nat.reduceBEq, Nat.reduceLT, decide_true])
      | (refine execG_split (fun h => ?_) (fun h => ?_) <;> simp only [h])
      | (refine execC_split (fun h => ?_) (fun h => ?_) <;> (try simp only [h]))
      | (refine onPick_split (fun h => ?_) (fun h => ?_) <;> (try simp only [h])))
  refine exec_range o.cs.length (fun i : Nat => ⟨[(1, .d (.int .i64 id)), (2, .ptr 0 0 []), (5, .d (.int .i64 i))], [.box o.s]⟩) (fun i => ∀ j r, j < i → o.cs[j]? = some r → decide (r.i = id) = false) (weak_of _ rfl ⟨⟨rfl, rfl⟩, ⟨rfl, rfl⟩, ⟨rfl, rfl⟩, trivial⟩) (fun j r hj => by omega) ?_ ?_
  · intro i hlt hinv hd h0
    obtain ⟨r, hr⟩ := get_lt hlt
    cases h : decide (r.i = id) with
    | true =>
      repeat' (first
          | (simp only [dl_len, dl_nth, hd, h0, h, Int.toNat_natCast, hr, Option.map_some, onC_true, css_noOwn, doff_o1, dget_o1, fa_cs0, ↓wA, ↓wC, wB, frzBE, frzBS, Nat.reduceEqDiff, Nat.reduceAdd, Nat.reduceSub, reduceIte, reduceCtorEq, Nat.reduceBEq, Nat.reduceLT, decide_true])
          | (refine onI_bare (by simp only [InR]; omega) ?_)
          | (refine execG_split (fun h => ?_) (fun h => ?_) <;> simp only [h])
          | (refine execC_split (fun h => ?_) (fun h => ?_) <;> (try simp only [h]))
          | (refine onPick_split (fun h => ?_) (fun h => ?_) <;> (try simp only [h])))
      all_goals rw [findC, idxOf_hit hr h hinv]
    | false =>
      repeat' (first
          | (simp only [dl_len, dl_nth, hd, h0, h, Int.toNat_natCast, hr, Option.map_some, onC_true, css_noOwn, doff_o1, dget_o1, fa_cs0, ↓wA, ↓wC, wB, frzBE, frzBS, Nat.reduceEqDiff, Nat.reduceAdd, Nat.reduceSub, reduceIte, reduceCtorEq, Nat.reduceBEq, Nat.reduceLT, decide_true])
          | (refine onI_bare (by simp only [InR]; omega) ?_)
          | (refine execG_split (fun h => ?_) (fun h => ?_) <;> simp only [h])
          | (refine execC_split (fun h => ?_) (fun h => ?_) <;> (try simp only [h]))
          | (refine onPick_split (fun h => ?_) (fun h => ?_) <;> (try simp only [h])))
      all_goals
        refine next_range (weak_of _ rfl ⟨⟨rfl, rfl⟩, ⟨rfl, rfl⟩, ⟨rfl, rfl⟩, trivial⟩) hlt fun j s hj hs => ?_
        by_cases e : j = i
        · subst e; rw [hr] at hs; injection hs with hs; rw [← hs]; exact h
        · exact hinv j s (by omega) hs
  · intro hinv hd
    repeat' (first
        | (simp only [dl_len, hd, css_noOwn, onC_true, doff_o1, dget_o1, ↓wA, ↓wC, wB, frzBE, frzBS, Nat.reduceEqDiff, Nat.reduceAdd, Nat.reduceSub, reduceIte, reduceCtorEq, Nat.reduceBEq, Nat.reduceLT, decide_true])
        | (refine execG_split (fun h => ?_) (fun h => ?_) <;> simp only [h])
        | (refine execC_split (fun h => ?_) (fun h => ?_) <;> (try simp only [h]))
        | (refine onPick_split (fun h => ?_) (fun h => ?_) <;> (try simp only [h])))
    all_goals rw [findC, idxOf_none fun j r hj => hinv j r (lt_of_get hj) hj]
theorem offOK_case {o : Off} {i : Nat} {x : Cs} (h : offOK o = true) (hr : o.cs[i]? = some x) : caseOK x = true := by
  simp only [offOK, Bool.and_eq_true] at h
  have := List.all_eq_true.1 h.2 i (List.mem_range.2 (lt_of_get hr))
  rw [stepC_at hr, Bool.and_eq_true] at this
  exact this.1
def caseR (o : Off) (id : Int) : List D := if offOK o = true then (if 0 ≤ findC o.cs id then [.str (txt (o.cs[(findC o.cs id).toNat]?.getD ⟨0, 0, 0, []⟩)), .bool true] else [.str [], .bool false]) else [.str [], .bool false]
theorem implCaseText_fn (o : Off) (id : Int) (ho : o.ok0) : Fn prog 27 [o.s, .int .i64 id] (fun rs => rs = caseR o id) := by
  have hV := isOffice_fn o ho
  have hF := caseAt_fn o id ho
  unfold caseR
  cases hv : offOK o with
  | false =>
    rw [hv] at hV
    refine Fn_of' (fn := f27) (by exact func27) c27 r27 (n := 23) (by rfl) (rv := [.tmp 4, .tmp 5]) (by rfl) (by simp) ?_
    unfold m27
    repeat' (first
        | (simp only [Off.s_noOwn, Off.s_isV, ↓rd_off, onC_true, ↓wA, ↓wC, wB, frzBE, frzBS, Nat.reduceEqDiff, Nat.reduceAdd, Nat.reduceSub, reduceIte, reduceCtorEq, Nat.reduceBEq, Nat.reduceLT, decide_true])
        | (refine call_det hF (by simp [argsD, argD, Off.s_unown]) rfl ?_)
        | (refine call_det hV (by simp [argsD, argD, Off.s_unown]) rfl ?_)
        | (refine execG_split (fun h => ?_) (fun h => ?_) <;> simp only [h])
        | (refine execC_split (fun h => ?_) (fun h => ?_) <;> (try simp only [h]))
        | (refine onPick_split (fun h => ?_) (fun h => ?_) <;> (try simp only [h])))
    all_goals simp
  | true =>
    rw [hv] at hV
    rcases find_casesC o.cs id with ⟨hn, hn'⟩ | ⟨i, x, hi, hr, _⟩
    · have hn2 := of_decide_eq_false hn'
      refine Fn_of' (fn := f27) (by exact func27) c27 r27 (n := 23) (by rfl) (rv := [.tmp 4, .tmp 5]) (by rfl) (by simp) ?_
      unfold m27
      repeat' (first
          | (simp only [hn, Off.s_noOwn, Off.s_isV, ↓rd_off, onC_true, ↓wA, ↓wC, wB, frzBE, frzBS, Nat.reduceEqDiff, Nat.reduceAdd, Nat.reduceSub, reduceIte, reduceCtorEq, Nat.reduceBEq, Nat.reduceLT, decide_true])
          | (refine call_det hF (by simp [argsD, argD, Off.s_unown]) rfl ?_)
          | (refine call_det hV (by simp [argsD, argD, Off.s_unown]) rfl ?_)
          | (refine execG_split (fun h => ?_) (fun h => ?_) <;> simp only [h])
          | (refine execC_split (fun h => ?_) (fun h => ?_) <;> (try simp only [h]))
          | (refine onPick_split (fun h => ?_) (fun h => ?_) <;> (try simp only [h])))
      all_goals simp [hn2]
    · rw [hi] at hF ⊢
      have h0 : (0 : Int) ≤ (i : Int) := by omega
      have hn : decide ((i : Int) < 0) = false := decide_eq_false (by omega)
      have hC := caseText_fn x (offOK_case hv hr)
      refine Fn_of' (fn := f27) (by exact func27) c27 r27 (n := 23) (by rfl) (rv := [.tmp 4, .tmp 5]) (by rfl) (by simp) ?_
      unfold m27
      repeat' (first
          | (simp only [hn, h0, dl_nth, Int.toNat_natCast, hr, Option.map_some, Off.s_noOwn, Off.s_isV, ↓rd_off, ↓rd_cs, css_noOwn, doff_o1, dget_o1, onC_true, ↓wA, ↓wC, wB, frzBE, frzBS, Nat.reduceEqDiff, Nat.reduceAdd, Nat.reduceSub, reduceIte, reduceCtorEq, Nat.reduceBEq, Nat.reduceLT, decide_true])
          | (refine call_det hF (by simp [argsD, argD, Off.s_unown]) rfl ?_)
          | (refine call_det hV (by simp [argsD, argD, Off.s_unown]) rfl ?_)
          | (refine call_det hC (by simp [argsD, argD, Cs.s_unown]) rfl ?_)
          | (refine execG_split (fun h => ?_) (fun h => ?_) <;> simp only [h])
          | (refine execC_split (fun h => ?_) (fun h => ?_) <;> (try simp only [h]))
          | (refine onPick_split (fun h => ?_) (fun h => ?_) <;> (try simp only [h])))
      all_goals simp [hr]
theorem specCaseText_fn (o : Off) (id : Int) (ho : o.ok0) : Fn prog 26 [o.s, .int .i64 id] (fun rs => rs = caseR o id) := by
  have hV := l25Good_fn o ho
  have hF := l25Find_fn o id ho
  unfold caseR
  cases hv : offOK o with
  | false =>
    rw [hv] at hV
    refine Fn_of' (fn := f26) (by exact func26) c26 r26 (n := 23) (by rfl) (rv := [.tmp 4, .tmp 5]) (by rfl) (by simp) ?_
    unfold m26
    repeat' (first
        | (simp only [Off.s_noOwn, Off.s_isV, ↓rd_off, onC_true, ↓wA, ↓wC, wB, frzBE, frzBS, Nat.reduceEqDiff, Nat.reduceAdd, Nat.reduceSub, reduceIte, reduceCtorEq, Nat.reduceBEq, Nat.reduceLT, decide_true])
        | (refine call_det hF (by simp [argsD, argD, Off.s_unown]) rfl ?_)
        | (refine call_det hV (by simp [argsD, argD, Off.s_unown]) rfl ?_)
        | (refine execG_split (fun h => ?_) (fun h => ?_) <;> simp only [h])
        | (refine execC_split (fun h => ?_) (fun h => ?_) <;> (try simp only [h]))
        | (refine onPick_split (fun h => ?_) (fun h => ?_) <;> (try simp only [h])))
    all_goals simp
  | true =>
    rw [hv] at hV
    rcases find_casesC o.cs id with ⟨hn, hn'⟩ | ⟨i, x, hi, hr, _⟩
    · have hn2 := of_decide_eq_false hn'
      refine Fn_of' (fn := f26) (by exact func26) c26 r26 (n := 23) (by rfl) (rv := [.tmp 4, .tmp 5]) (by rfl) (by simp) ?_
      unfold m26
      repeat' (first
          | (simp only [hn, Off.s_noOwn, Off.s_isV, ↓rd_off, onC_true, ↓wA, ↓wC, wB, frzBE, frzBS, Nat.reduceEqDiff, Nat.reduceAdd, Nat.reduceSub, reduceIte, reduceCtorEq, Nat.reduceBEq, Nat.reduceLT, decide_true])
          | (refine call_det hF (by simp [argsD, argD, Off.s_unown]) rfl ?_)
          | (refine call_det hV (by simp [argsD, argD, Off.s_unown]) rfl ?_)
          | (refine execG_split (fun h => ?_) (fun h => ?_) <;> simp only [h])
          | (refine execC_split (fun h => ?_) (fun h => ?_) <;> (try simp only [h]))
          | (refine onPick_split (fun h => ?_) (fun h => ?_) <;> (try simp only [h])))
      all_goals simp [hn2]
    · rw [hi] at hF ⊢
      have h0 : (0 : Int) ≤ (i : Int) := by omega
      have hn : decide ((i : Int) < 0) = false := decide_eq_false (by omega)
      have hC := l25Text_fn x (offOK_case hv hr)
      refine Fn_of' (fn := f26) (by exact func26) c26 r26 (n := 23) (by rfl) (rv := [.tmp 4, .tmp 5]) (by rfl) (by simp) ?_
      unfold m26
      repeat' (first
          | (simp only [hn, h0, dl_nth, Int.toNat_natCast, hr, Option.map_some, Off.s_noOwn, Off.s_isV, ↓rd_off, ↓rd_cs, css_noOwn, doff_o1, dget_o1, onC_true, ↓wA, ↓wC, wB, frzBE, frzBS, Nat.reduceEqDiff, Nat.reduceAdd, Nat.reduceSub, reduceIte, reduceCtorEq, Nat.reduceBEq, Nat.reduceLT, decide_true])
          | (refine call_det hF (by simp [argsD, argD, Off.s_unown]) rfl ?_)
          | (refine call_det hV (by simp [argsD, argD, Off.s_unown]) rfl ?_)
          | (refine call_det hC (by simp [argsD, argD, Cs.s_unown]) rfl ?_)
          | (refine execG_split (fun h => ?_) (fun h => ?_) <;> simp only [h])
          | (refine execC_split (fun h => ?_) (fun h => ?_) <;> (try simp only [h]))
          | (refine onPick_split (fun h => ?_) (fun h => ?_) <;> (try simp only [h])))
      all_goals simp [hr]
theorem lawCaseText_fn (o : Off) (id : Int) (hr : o.raw) : Fn prog 8 [o.s, .int .i64 id] (fun rs => rs = [.bool true]) := by
  refine Fn_of' (fn := f8) (by exact func8) c8 r8 (n := 44) (by rfl) (rv := [.tmp 4]) (by rfl) (by simp) ?_
  unfold m8
  repeat' (first
      | (simp only [Off.s_noOwn, Off.s_isV, ↓rd_off, onC_true, ↓wA, ↓wC, wB, frzBE, frzBS, Nat.reduceEqDiff, Nat.reduceAdd, Nat.reduceSub, reduceIte, reduceCtorEq, Nat.reduceBEq, Nat.reduceLT, decide_true])
      | (refine execG_split (fun h => ?_) (fun h => ?_) <;> simp only [h])
      | (refine execC_split (fun h => ?_) (fun h => ?_) <;> (try simp only [h]))
      | (refine onPick_split (fun h => ?_) (fun h => ?_) <;> (try simp only [h])))
  refine call_rel (szOff_fn o hr) (by simp [argsD, argD, Off.s_unown]) fun rs h => ?_
  obtain ⟨m, rfl, m1, m2, m3⟩ := h
  refine ⟨.inl rfl, ?_⟩
  cases hd : decide (m < 0) with
  | true =>
    repeat' (first
        | (simp only [hd, ↓wA, ↓wC, wB, frzBE, frzBS, Nat.reduceEqDiff, Nat.reduceAdd, Nat.reduceSub, reduceIte, reduceCtorEq, Nat.reduceBEq, Nat.reduceLT, decide_true])
        | (refine execG_split (fun h => ?_) (fun h => ?_) <;> simp only [h])
        | (refine execC_split (fun h => ?_) (fun h => ?_) <;> (try simp only [h]))
        | (refine onPick_split (fun h => ?_) (fun h => ?_) <;> (try simp only [h])))
  | false =>
    have hd' := of_decide_eq_false hd
    have ho := m3 (by omega)
    have hT := toOffice_fn o ho
    have hS := specCaseText_fn o id ho
    have hI := implCaseText_fn o id ho
    have hE := eqOffice_refl o ho
    have hR : ∃ T b, caseR o id = [.str T, .bool b] := by
      unfold caseR
      split
      · split <;> exact ⟨_, _, rfl⟩
      · exact ⟨_, _, rfl⟩
    obtain ⟨T, b, hR⟩ := hR
    rw [hR] at hS hI
    have hbb : (b == b) = true := by cases b <;> rfl
    have hTT : decide (T = T) = true := decide_eq_true rfl
    repeat' (first
        | (simp only [hd, hbb, hTT, Off.s_noOwn, Off.s_isV, Off.s_size, ↓rd_off, onC_true, ↓wA, ↓wC, wB, frzBE, frzBS, Nat.reduceEqDiff, Nat.reduceAdd, Nat.reduceSub, reduceIte, reduceCtorEq, Nat.reduceBEq, Nat.reduceLT, decide_true])
        | (refine call_det hT (by simp [argsD, argD, Off.s_unown]) rfl ?_)
        | (refine callP_det hT (by simp [argsD, argD, Off.s_unown]) rfl ?_)
        | (refine call_det hS (by simp [argsD, argD, Off.s_unown]) rfl ?_)
        | (refine call_det hI (by simp [argsD, argD, Off.s_unown]) rfl ?_)
        | (refine callP_det hE (by simp [argsD, argD, Off.s_unown]) rfl ?_)
        | (refine execG_split (fun h => ?_) (fun h => ?_) <;> simp only [h])
        | (refine execC_split (fun h => ?_) (fun h => ?_) <;> (try simp only [h]))
        | (refine onPick_split (fun h => ?_) (fun h => ?_) <;> (try simp only [h])))
    all_goals trace_state
theorem lawCaseText (x0 x1 : D) (h0 : Typed offSh x0) (h1 : Typed (.int .i64) x1) : Fn prog 8 [x0, x1] (fun rs => rs = [.bool true]) := by
  obtain ⟨o, rfl, hr⟩ := off_of x0 h0
  obtain ⟨n, rfl, _⟩ := h1
  exact lawCaseText_fn o n hr
end Go.Pe.Tryd
