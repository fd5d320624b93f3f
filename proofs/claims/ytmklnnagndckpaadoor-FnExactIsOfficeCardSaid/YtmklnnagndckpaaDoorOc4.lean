/- Is it an office? walked, and the law. -/
import Derived.Test.YtmklnnagndckpaaDoorW1
set_option maxRecDepth 100000
set_option maxHeartbeats 4000000
set_option linter.all false
namespace Go.Pe.Tryd
open Go.Proofs.Tryd
theorem fa_cs0 {x : Cs} {K : SV → Prop} : stepFa 0 0 (.d (.ptr x.s)) K = K (.d (.ptr (.int .i64 x.i))) := by simp [Cs.s, Cs.p, stepFa, D.pre, D.nth, D.size]
theorem doff_s0 {x : Cs} : doff [0] x.s = 0 := rfl
theorem dget_s0 {x : Cs} : dget [0] x.s = some (.int .i64 x.i) := rfl
theorem Off.s_isV (o : Off) : o.s.isV = true := rfl
theorem Off.s_size (o : Off) : o.s.size = 5 := rfl
theorem Off.o_isV (o : Off) : o.o.isV = true := rfl
theorem Off.o_size (o : Off) : o.o.size = 5 := rfl
/-- is a case's number greater than that of the one ahead? -/
def ltC (xs : List Cs) (i : Nat) (x : Cs) : Bool := match i with
  | 0 => true
  | k + 1 => match xs[k]? with
    | some y => decide (y.i < x.i)
    | none => true
def stepC (xs : List Cs) (i : Nat) : Bool := match xs[i]? with
  | some x => caseOK x && ltC xs i x
  | none => false
theorem stepC_at {xs : List Cs} {i : Nat} {x : Cs} (hr : xs[i]? = some x) : stepC xs i = (caseOK x && ltC xs i x) := by
  unfold stepC; rw [hr]
def casesOK (xs : List Cs) : Bool := (List.range xs.length).all (stepC xs)
theorem casesOK_bad {xs : List Cs} {i : Nat} (hi : i < xs.length) (h : stepC xs i = false) : casesOK xs = false := by
  refine List.all_eq_false.2 ⟨i, List.mem_range.2 hi, by rw [h]; simp⟩
theorem casesOK_all {xs : List Cs} (h : ∀ j, j < xs.length → stepC xs j = true) : casesOK xs = true :=
  List.all_eq_true.2 fun j hj => h j (List.mem_range.1 hj)
def ledOK (L : List (List UInt8)) : Bool := !decide ((0 : Int) < (L.length : Int)) || ledgerOK L
def headOK (o : Off) : Bool := within o.day 0 20000 && decide ((o.cs.length : Int) ≤ 6) && within o.kept 0 999 && within o.moved 0 999 && ledOK o.led
def offOK (o : Off) : Bool := headOK o && casesOK o.cs
theorem prevC {xs : List Cs} {i : Nat} {x : Cs} (hlt : i < xs.length) : (decide ((0 : Int) < (i : Int)) = false ∧ ltC xs i x = true) ∨ ∃ y, decide ((0 : Int) < (i : Int)) = true ∧ (0 : Int) ≤ (i : Int) - 1 ∧ xs[((i : Int) - 1).toNat]? = some y ∧ decide (x.i ≤ y.i) = !ltC xs i x := by
  cases i with
  | zero => exact .inl ⟨rfl, rfl⟩
  | succ k =>
    obtain ⟨y, hy⟩ := get_lt (show k < xs.length by omega)
    refine .inr ⟨y, decide_eq_true (by omega), by omega, ?_, ?_⟩
    · rw [show (((k + 1 : Nat) : Int) - 1).toNat = k by omega]; exact hy
    · have : ltC xs (k + 1) x = decide (y.i < x.i) := by simp only [ltC, hy]
      rw [this]
      by_cases h : y.i < x.i
      · rw [decide_eq_true h, decide_eq_false (by omega)]; rfl
      · rw [decide_eq_false h, decide_eq_true (by omega)]; rfl
theorem isOffice_fn (o : Off) (ho : o.ok0) : Fn prog 12 [o.s] (fun rs => rs = [.bool (offOK o)]) := by
  have hDay := isDay_fn o.day
  have hK := within_fn o.kept 0 999
  have hM := within_fn o.moved 0 999
  have hL := isLedger_fn o.led ho.2.1
  have hlen := ho.1.1
  have hh : headOK o = (within o.day 0 20000 && decide ((o.cs.length : Int) ≤ 6) && within o.kept 0 999 && within o.moved 0 999 && ledOK o.led) := rfl
  unfold ledOK at hh
  unfold offOK
  have body : headOK o = true → Fn prog 12 [o.s] (fun rs => rs = [.bool (casesOK o.cs)]) := by
    intro hho
    rw [hh] at hho
    simp only [Bool.and_eq_true] at hho
    obtain ⟨⟨⟨⟨q1, q2⟩, q3⟩, q4⟩, q5⟩ := hho
    rw [q1] at hDay
    rw [q3] at hK
    rw [q4] at hM
    have q2' := of_decide_eq_true q2
    have e2 : decide ((6 : Int) < (o.cs.length : Int)) = false := decide_eq_false (by omega)
    generalize hlg : ledgerOK o.led = b5 at *
    refine Fn_of' (fn := f12) (by exact func12) c12 r12 (n := 67) (by rfl) (rv := [.tmp 2]) (by rfl) (by simp) ?_
    unfold m12
    simp only [Off.s, offP]
    repeat' (first
        | (simp only [css_noOwn, strs_noOwn, onC_true, dl_len, e2, ↓wA, ↓wC, wB, frzBE, frzBS, Nat.reduceEqDiff, Nat.reduceAdd, Nat.reduceSub, reduceIte, reduceCtorEq, Nat.reduceBEq, Nat.reduceLT, decide_true])
        | (refine call_det (hDay) rfl rfl ?_)
        | (refine callP_det (hDay) rfl rfl ?_)
        | (refine call_det (hK) rfl rfl ?_)
        | (refine callP_det (hK) rfl rfl ?_)
        | (refine call_det (hM) rfl rfl ?_)
        | (refine callP_det (hM) rfl rfl ?_)
        | (refine call_det (hL) rfl rfl ?_)
        | (refine callP_det (hL) rfl rfl ?_)
        | (refine execG_split (fun h => ?_) (fun h => ?_) <;> simp only [h])
        | (refine execC_split (fun h => ?_) (fun h => ?_) <;> (try simp only [h]))
        | (refine onPick_split (fun h => ?_) (fun h => ?_) <;> (try simp only [h])))
    any_goals (exfalso; clear hDay hK hM hL; simp_all; done)
    all_goals
      refine exec_range o.cs.length (fun i : Nat => ⟨[(1, .ptr 0 0 []), (40, .d (.sl false 4 (dl Cs.s o.cs))), (41, .d (.int .i64 o.cs.length)), (42, .d (.int .i64 i))], [.box o.s]⟩) (fun i => ∀ j, j < i → stepC o.cs j = true) (weak_of _ rfl ⟨⟨rfl, rfl⟩, ⟨rfl, rfl⟩, ⟨rfl, rfl⟩, ⟨rfl, rfl⟩, trivial⟩) (fun j hj => by omega) ?_ ?_
      · intro i hlt hinv hd h0
        obtain ⟨x, hr⟩ := get_lt hlt
        have hst := stepC_at hr
        have hok := isCase_fn x (ho.1.2 x (List.mem_of_getElem? hr))
        simp only [Off.s, offP]
        rcases prevC (x := x) hlt with ⟨hg, hl⟩ | ⟨y, hg, h1, hy, hq⟩
        · rw [hl, Bool.and_true] at hst
          repeat' (first
              | (simp only [css_noOwn, strs_noOwn, dl_len, dl_nth, hd, h0, hg, Int.toNat_natCast, hr, Option.map_some, ↓rd_cs, Cs.s_noOwn, Cs.s_isV, Cs.s_size, Cs.s_unown, onC_true, ↓wA, ↓wC, wB, frzBE, frzBS, Nat.reduceEqDiff, Nat.reduceAdd, Nat.reduceSub, reduceIte, reduceCtorEq, Nat.reduceBEq, Nat.reduceLT, decide_true])
              | (refine call_det (hok) rfl rfl ?_)
              | (refine callP_det (hok) rfl rfl ?_)
              | (with_reducible refine onI_bare ?_ ?_; focus (simp only [InR]; omega))
              | (refine execG_split (fun h => ?_) (fun h => ?_) <;> simp only [h])
              | (refine execC_split (fun h => ?_) (fun h => ?_) <;> (try simp only [h]))
              | (refine onPick_split (fun h => ?_) (fun h => ?_) <;> (try simp only [h])))
          all_goals first
            | (refine next_range (weak_of _ rfl ⟨⟨rfl, rfl⟩, ⟨rfl, rfl⟩, ⟨rfl, rfl⟩, ⟨rfl, rfl⟩, trivial⟩) hlt (all_upto hinv ?_); focus (clear hok; rw [hst]; simp_all; done))
            | (refine (congrArg (fun b => [D.bool b]) (casesOK_bad hlt ?_)).symm; focus (clear hok; rw [hst]; simp_all; done))
            | trace_state
        · repeat' (first
     | (simp only [css_noOwn, strs_noOwn, dl_len, dl_nth, hd, h0, hg, h1, hy, hq, Int.toNat_natCast, hr, Option.map_some, ↓rd_cs, ↓fa_cs0, doff_s0, dget_s0, Cs.s_noOwn, Cs.s_isV, Cs.s_size, Cs.s_unown, onC_true, ↓wA, ↓wC, wB, frzBE, frzBS, Nat.reduceEqDiff, Nat.reduceAdd, Nat.reduceSub, reduceIte, reduceCtorEq, Nat.reduceBEq, Nat.reduceLT, decide_true])
     | (refine call_det (hok) rfl rfl ?_)
     | (refine callP_det (hok) rfl rfl ?_)
     | (with_reducible refine onI_bare ?_ ?_; focus (simp only [InR]; omega))
     | (refine execG_split (fun h => ?_) (fun h => ?_) <;> simp only [h])
     | (refine execC_split (fun h => ?_) (fun h => ?_) <;> (try simp only [h]))
     | (refine onPick_split (fun h => ?_) (fun h => ?_) <;> (try simp only [h])))
          all_goals first
            | (refine next_range (weak_of _ rfl ⟨⟨rfl, rfl⟩, ⟨rfl, rfl⟩, ⟨rfl, rfl⟩, ⟨rfl, rfl⟩, trivial⟩) hlt (all_upto hinv ?_); focus (clear hok; rw [hst]; simp_all; done))
            | (refine (congrArg (fun b => [D.bool b]) (casesOK_bad hlt ?_)).symm; focus (clear hok; rw [hst]; simp_all; done))
            | trace_state
      · intro hinv hd
        have hall := casesOK_all hinv
        rw [hall]
        simp only [Off.s, offP]
        repeat' (first
            | (simp only [css_noOwn, strs_noOwn, dl_len, hd, onC_true, ↓wA, ↓wC, wB, frzBE, frzBS, Nat.reduceEqDiff, Nat.reduceAdd, Nat.reduceSub, reduceIte, reduceCtorEq, Nat.reduceBEq, Nat.reduceLT, decide_true])
            | (refine execG_split (fun h => ?_) (fun h => ?_) <;> simp only [h])
            | (refine execC_split (fun h => ?_) (fun h => ?_) <;> (try simp only [h]))
            | (refine onPick_split (fun h => ?_) (fun h => ?_) <;> (try simp only [h])))
  cases hho : headOK o with
  | true => simpa using body hho
  | false =>
    rw [hh] at hho
    rw [Bool.false_and]
    generalize hlg : ledgerOK o.led = b5 at *
    generalize within o.day 0 20000 = b1 at *
    generalize within o.kept 0 999 = b3 at *
    generalize within o.moved 0 999 = b4 at *
    refine Fn_of' (fn := f12) (by exact func12) c12 r12 (n := 67) (by rfl) (rv := [.tmp 2]) (by rfl) (by simp) ?_
    unfold m12
    simp only [Off.s, offP]
    repeat' (first
        | (simp only [css_noOwn, strs_noOwn, onC_true, dl_len, ↓wA, ↓wC, wB, frzBE, frzBS, Nat.reduceEqDiff, Nat.reduceAdd, Nat.reduceSub, reduceIte, reduceCtorEq, Nat.reduceBEq, Nat.reduceLT, decide_true])
        | (refine call_det (hDay) rfl rfl ?_)
        | (refine callP_det (hDay) rfl rfl ?_)
        | (refine call_det (hK) rfl rfl ?_)
        | (refine callP_det (hK) rfl rfl ?_)
        | (refine call_det (hM) rfl rfl ?_)
        | (refine callP_det (hM) rfl rfl ?_)
        | (refine call_det (hL) rfl rfl ?_)
        | (refine callP_det (hL) rfl rfl ?_)
        | (refine execG_split (fun h => ?_) (fun h => ?_) <;> simp only [h])
        | (refine execC_split (fun h => ?_) (fun h => ?_) <;> (try simp only [h]))
        | (refine onPick_split (fun h => ?_) (fun h => ?_) <;> (try simp only [h])))
    all_goals first
      | rfl
      | (exfalso; clear hDay hK hM hL body; simp_all; done)
      | (exfalso; clear hDay hK hM hL body; simp_all; omega)
theorem l25Good_fn (o : Off) (ho : o.ok0) : Fn prog 30 [o.s] (fun rs => rs = [.bool (offOK o)]) := by
  have hDay := l2Day_fn o.day
  have hK := l1In_fn o.kept 0 999
  have hM := l1In_fn o.moved 0 999
  have hL := l16Good_fn o.led ho.2.1 ho.2.2
  have hlen := ho.1.1
  have hh : headOK o = (within o.day 0 20000 && decide ((o.cs.length : Int) ≤ 6) && within o.kept 0 999 && within o.moved 0 999 && ledOK o.led) := rfl
  unfold ledOK at hh
  unfold offOK
  have body : headOK o = true → Fn prog 30 [o.s] (fun rs => rs = [.bool (casesOK o.cs)]) := by
    intro hho
    rw [hh] at hho
    simp only [Bool.and_eq_true] at hho
    obtain ⟨⟨⟨⟨q1, q2⟩, q3⟩, q4⟩, q5⟩ := hho
    rw [q1] at hDay
    rw [q3] at hK
    rw [q4] at hM
    have q2' := of_decide_eq_true q2
    have e2 : decide ((6 : Int) < (o.cs.length : Int)) = false := decide_eq_false (by omega)
    generalize hlg : ledgerOK o.led = b5 at *
    refine Fn_of' (fn := f30) (by exact func30) c30 r30 (n := 72) (by rfl) (rv := [.tmp 2]) (by rfl) (by simp) ?_
    unfold m30
    simp only [Off.s, offP]
    repeat' (first
        | (simp only [css_noOwn, strs_noOwn, onC_true, dl_len, e2, ↓wA, ↓wC, wB, frzBE, frzBS, Nat.reduceEqDiff, Nat.reduceAdd, Nat.reduceSub, reduceIte, reduceCtorEq, Nat.reduceBEq, Nat.reduceLT, decide_true])
        | (refine call_det (hDay) rfl rfl ?_)
        | (refine callP_det (hDay) rfl rfl ?_)
        | (refine call_det (hK) rfl rfl ?_)
        | (refine callP_det (hK) rfl rfl ?_)
        | (refine call_det (hM) rfl rfl ?_)
        | (refine callP_det (hM) rfl rfl ?_)
        | (refine call_det (hL) rfl rfl ?_)
        | (refine callP_det (hL) rfl rfl ?_)
        | (refine execG_split (fun h => ?_) (fun h => ?_) <;> simp only [h])
        | (refine execC_split (fun h => ?_) (fun h => ?_) <;> (try simp only [h]))
        | (refine onPick_split (fun h => ?_) (fun h => ?_) <;> (try simp only [h])))
    any_goals (exfalso; clear hDay hK hM hL; simp_all; done)
    all_goals
      refine exec_range o.cs.length (fun i : Nat => ⟨[(1, .ptr 0 0 []), (3, .d (.int .i64 i))], [.box o.s]⟩) (fun i => ∀ j, j < i → stepC o.cs j = true) (weak_of _ rfl ⟨⟨rfl, rfl⟩, ⟨rfl, rfl⟩, trivial⟩) (fun j hj => by omega) ?_ ?_
      · intro i hlt hinv hd h0
        obtain ⟨x, hr⟩ := get_lt hlt
        have hst := stepC_at hr
        have hok := l25Case_fn x (ho.1.2 x (List.mem_of_getElem? hr))
        simp only [Off.s, offP]
        rcases prevC (x := x) hlt with ⟨hg, hl⟩ | ⟨y, hg, h1, hy, hq⟩
        · rw [hl, Bool.and_true] at hst
          repeat' (first
              | (simp only [css_noOwn, strs_noOwn, dl_len, dl_nth, hd, h0, hg, Int.toNat_natCast, hr, Option.map_some, ↓rd_cs, Cs.s_noOwn, Cs.s_isV, Cs.s_size, Cs.s_unown, onC_true, ↓wA, ↓wC, wB, frzBE, frzBS, Nat.reduceEqDiff, Nat.reduceAdd, Nat.reduceSub, reduceIte, reduceCtorEq, Nat.reduceBEq, Nat.reduceLT, decide_true])
              | (refine call_det (hok) rfl rfl ?_)
              | (refine callP_det (hok) rfl rfl ?_)
              | (with_reducible refine onI_bare ?_ ?_; focus (simp only [InR]; omega))
              | (refine execG_split (fun h => ?_) (fun h => ?_) <;> simp only [h])
              | (refine execC_split (fun h => ?_) (fun h => ?_) <;> (try simp only [h]))
              | (refine onPick_split (fun h => ?_) (fun h => ?_) <;> (try simp only [h])))
          all_goals first
            | (refine next_range (weak_of _ rfl ⟨⟨rfl, rfl⟩, ⟨rfl, rfl⟩, trivial⟩) hlt (all_upto hinv ?_); focus (clear hok; rw [hst]; simp_all; done))
            | (refine (congrArg (fun b => [D.bool b]) (casesOK_bad hlt ?_)).symm; focus (clear hok; rw [hst]; simp_all; done))
            | trace_state
        · repeat' (first
     | (simp only [css_noOwn, strs_noOwn, dl_len, dl_nth, hd, h0, hg, h1, hy, hq, Int.toNat_natCast, hr, Option.map_some, ↓rd_cs, ↓fa_cs0, doff_s0, dget_s0, Cs.s_noOwn, Cs.s_isV, Cs.s_size, Cs.s_unown, onC_true, ↓wA, ↓wC, wB, frzBE, frzBS, Nat.reduceEqDiff, Nat.reduceAdd, Nat.reduceSub, reduceIte, reduceCtorEq, Nat.reduceBEq, Nat.reduceLT, decide_true])
     | (refine call_det (hok) rfl rfl ?_)
     | (refine callP_det (hok) rfl rfl ?_)
     | (with_reducible refine onI_bare ?_ ?_; focus (simp only [InR]; omega))
     | (refine execG_split (fun h => ?_) (fun h => ?_) <;> simp only [h])
     | (refine execC_split (fun h => ?_) (fun h => ?_) <;> (try simp only [h]))
     | (refine onPick_split (fun h => ?_) (fun h => ?_) <;> (try simp only [h])))
          all_goals first
            | (refine next_range (weak_of _ rfl ⟨⟨rfl, rfl⟩, ⟨rfl, rfl⟩, trivial⟩) hlt (all_upto hinv ?_); focus (clear hok; rw [hst]; simp_all; done))
            | (refine (congrArg (fun b => [D.bool b]) (casesOK_bad hlt ?_)).symm; focus (clear hok; rw [hst]; simp_all; done))
            | trace_state
      · intro hinv hd
        have hall := casesOK_all hinv
        rw [hall]
        simp only [Off.s, offP]
        repeat' (first
            | (simp only [css_noOwn, strs_noOwn, dl_len, hd, onC_true, ↓wA, ↓wC, wB, frzBE, frzBS, Nat.reduceEqDiff, Nat.reduceAdd, Nat.reduceSub, reduceIte, reduceCtorEq, Nat.reduceBEq, Nat.reduceLT, decide_true])
            | (refine execG_split (fun h => ?_) (fun h => ?_) <;> simp only [h])
            | (refine execC_split (fun h => ?_) (fun h => ?_) <;> (try simp only [h]))
            | (refine onPick_split (fun h => ?_) (fun h => ?_) <;> (try simp only [h])))
  cases hho : headOK o with
  | true => simpa using body hho
  | false =>
    rw [hh] at hho
    rw [Bool.false_and]
    generalize hlg : ledgerOK o.led = b5 at *
    generalize within o.day 0 20000 = b1 at *
    generalize within o.kept 0 999 = b3 at *
    generalize within o.moved 0 999 = b4 at *
    refine Fn_of' (fn := f30) (by exact func30) c30 r30 (n := 72) (by rfl) (rv := [.tmp 2]) (by rfl) (by simp) ?_
    unfold m30
    simp only [Off.s, offP]
    repeat' (first
        | (simp only [css_noOwn, strs_noOwn, onC_true, dl_len, ↓wA, ↓wC, wB, frzBE, frzBS, Nat.reduceEqDiff, Nat.reduceAdd, Nat.reduceSub, reduceIte, reduceCtorEq, Nat.reduceBEq, Nat.reduceLT, decide_true])
        | (refine call_det (hDay) rfl rfl ?_)
        | (refine callP_det (hDay) rfl rfl ?_)
        | (refine call_det (hK) rfl rfl ?_)
        | (refine callP_det (hK) rfl rfl ?_)
        | (refine call_det (hM) rfl rfl ?_)
        | (refine callP_det (hM) rfl rfl ?_)
        | (refine call_det (hL) rfl rfl ?_)
        | (refine callP_det (hL) rfl rfl ?_)
        | (refine execG_split (fun h => ?_) (fun h => ?_) <;> simp only [h])
        | (refine execC_split (fun h => ?_) (fun h => ?_) <;> (try simp only [h]))
        | (refine onPick_split (fun h => ?_) (fun h => ?_) <;> (try simp only [h])))
    all_goals first
      | rfl
      | (exfalso; clear hDay hK hM hL body; simp_all; done)
      | (exfalso; clear hDay hK hM hL body; simp_all; omega)
theorem specIsOffice_fn (o : Off) (ho : o.ok0) : Fn prog 10 [o.s] (fun rs => rs = [.bool (offOK o)]) := by
  have hG := l25Good_fn o ho
  refine Fn_of' (fn := f10) (by exact func10) c10 r10 (n := 5) (by rfl) (rv := [.tmp 2]) (by rfl) (by simp) ?_
  unfold m10
  repeat' (first
      | (simp only [Off.s_noOwn, Off.s_isV, ↓rd_off, onC_true, ↓wA, ↓wC, wB, frzBE, frzBS, Nat.reduceEqDiff, Nat.reduceAdd, Nat.reduceSub, reduceIte, reduceCtorEq, Nat.reduceBEq, Nat.reduceLT, decide_true])
      | (refine call_det hG (by simp [argsD, argD, Off.s_unown]) rfl ?_)
      | (refine callP_det hG (by simp [argsD, argD, Off.s_unown]) rfl ?_)
      | (refine execG_split (fun h => ?_) (fun h => ?_) <;> simp only [h])
      | (refine execC_split (fun h => ?_) (fun h => ?_) <;> (try simp only [h]))
      | (refine onPick_split (fun h => ?_) (fun h => ?_) <;> (try simp only [h])))
def offSh : Sh := .st (.cons (.int .i64) (.cons (.sl 4 (.st (.cons (.int .i64) (.cons (.int .i64) (.cons (.int .i64) (.cons (.sl 1 (.int .i64)) .nil)))))) (.cons (.int .i64) (.cons (.int .i64) (.cons (.sl 1 .str) .nil)))))
theorem int_of (x : D) (h : Typed (.int .i64) x) : ∃ n : Int, x = iD n ∧ True := by
  obtain ⟨n, rfl, _⟩ := h
  exact ⟨n, rfl, trivial⟩
theorem str_of (x : D) (h : Typed .str x) : ∃ s : List UInt8, x = .str s ∧ s.length ≤ maxLen := by
  obtain ⟨s, rfl, hs⟩ := h
  exact ⟨s, rfl, hs⟩
theorem case_of (x : D) (h : Typed (.st (.cons (.int .i64) (.cons (.int .i64) (.cons (.int .i64) (.cons (.sl 1 (.int .i64)) .nil))))) x) : ∃ c : Cs, x = c.s ∧ c.h.length ≤ maxLen := by
  obtain ⟨_, rfl, _, _, rfl, ⟨i, rfl, _⟩, _, _, rfl, ⟨a, rfl, _⟩, _, _, rfl, ⟨d, rfl, _⟩, _, _, rfl, ⟨ds, rfl, h1, h2⟩, rfl⟩ := h
  obtain ⟨v, hv, hl, _⟩ := typed_list (f := iD) (P := fun _ => True) int_of ds h2
  exact ⟨⟨i, a, d, v⟩, by rw [hv]; rfl, by rw [hl]; exact h1⟩
/-- sizes as they come. -/
def Off.raw (o : Off) : Prop := o.cs.length ≤ maxLen ∧ (∀ x ∈ o.cs, x.h.length ≤ maxLen) ∧ o.led.length ≤ maxLen ∧ ∀ s ∈ o.led, s.length ≤ maxLen
theorem off_of (x : D) (h : Typed offSh x) : ∃ o : Off, x = o.s ∧ o.raw := by
  obtain ⟨_, rfl, _, _, rfl, ⟨day, rfl, _⟩, _, _, rfl, ⟨cs, rfl, c1, c2⟩, _, _, rfl, ⟨k, rfl, _⟩, _, _, rfl, ⟨m, rfl, _⟩, _, _, rfl, ⟨ls, rfl, l1, l2⟩, rfl⟩ := h
  obtain ⟨xs, hxs, hxl, hxp⟩ := typed_list (f := Cs.s) (P := fun c => c.h.length ≤ maxLen) case_of cs c2
  obtain ⟨L, hL, hLl, hLp⟩ := typed_list (f := D.str) (P := fun s => s.length ≤ maxLen) str_of ls l2
  exact ⟨⟨day, xs, k, m, L⟩, by rw [hxs, hL]; rfl, by rw [hxl]; exact c1, hxp, by rw [hLl]; exact l1, hLp⟩
theorem szOff_fn (o : Off) (h : o.raw) : Fn prog 9 [o.s, .int .i64 1048576] (fun rs => ∃ m : Int, rs = [.int .i64 m] ∧ -1 ≤ m ∧ m ≤ 1048576 ∧ (0 ≤ m → o.ok0)) :=
  szOffice_fn o 1048576 (by decide) (by decide) h.1 h.2.1 h.2.2.1 h.2.2.2
theorem lawIsOffice_fn (o : Off) (hr : o.raw) : Fn prog 3 [o.s] (fun rs => rs = [.bool true]) := by
  refine Fn_of' (fn := f3) (by exact func3) c3 r3 (n := 27) (by rfl) (rv := [.tmp 2]) (by rfl) (by simp) ?_
  unfold m3
  repeat' (first
      | (simp only [Off.s_noOwn, Off.s_isV, ↓rd_off, onC_true, ↓wA, ↓wC, wB, frzBE, frzBS, Nat.reduceEqDiff, Nat.reduceAdd, Nat.reduceSub, reduceIte, reduceCtorEq, Nat.reduceBEq, Nat.reduceLT, decide_true])
      | (refine execG_split (fun h => ?_) (fun h => ?_) <;> simp only [h])
      | (refine execC_split (fun h => ?_) (fun h => ?_) <;> (try simp only [h]))
      | (refine onPick_split (fun h => ?_) (fun h => ?_) <;> (try simp only [h])))
  refine call_rel (szOff_fn o hr) (by simp [argsD, argD, Off.s_unown]) fun rs h => ?_
  obtain ⟨m, rfl, m1, m2, m3⟩ := h
  refine ⟨.inl rfl, ?_⟩
  cases hd : decide (m < 0) with
  | true =>
    repeat' (first
        | (simp only [hd, ↓wA, ↓wC, wB, frzBE, frzBS, Nat.reduceEqDiff, Nat.reduceAdd, Nat.reduceSub, reduceIte, reduceCtorEq, Nat.reduceBEq, Nat.reduceLT, decide_true])
        | (refine execG_split (fun h => ?_) (fun h => ?_) <;> simp only [h])
        | (refine execC_split (fun h => ?_) (fun h => ?_) <;> (try simp only [h]))
        | (refine onPick_split (fun h => ?_) (fun h => ?_) <;> (try simp only [h])))
  | false =>
    have hd' := of_decide_eq_false hd
    have ho := m3 (by omega)
    have hT := toOffice_fn o ho
    have hS := specIsOffice_fn o ho
    have hI := isOffice_fn o ho
    have hE := eqOffice_refl o ho
    generalize offOK o = b at *
    have hbb : (b == b) = true := by cases b <;> rfl
    repeat' (first
        | (simp only [hd, hbb, Off.s_noOwn, Off.s_isV, Off.s_size, ↓rd_off, onC_true, ↓wA, ↓wC, wB, frzBE, frzBS, Nat.reduceEqDiff, Nat.reduceAdd, Nat.reduceSub, reduceIte, reduceCtorEq, Nat.reduceBEq, Nat.reduceLT, decide_true])
        | (refine call_det hT (by simp [argsD, argD, Off.s_unown]) rfl ?_)
        | (refine callP_det hT (by simp [argsD, argD, Off.s_unown]) rfl ?_)
        | (refine call_det hS (by simp [argsD, argD, Off.s_unown]) rfl ?_)
        | (refine call_det hI (by simp [argsD, argD, Off.s_unown]) rfl ?_)
        | (refine callP_det hE (by simp [argsD, argD, Off.s_unown]) rfl ?_)
        | (refine execG_split (fun h => ?_) (fun h => ?_) <;> simp only [h])
        | (refine execC_split (fun h => ?_) (fun h => ?_) <;> (try simp only [h]))
        | (refine onPick_split (fun h => ?_) (fun h => ?_) <;> (try simp only [h])))
    all_goals trace_state
theorem lawIsOffice (x0 : D) (h0 : Typed offSh x0) : Fn prog 3 [x0] (fun rs => rs = [.bool true]) := by
  obtain ⟨o, rfl, hr⟩ := off_of x0 h0
  exact lawIsOffice_fn o hr
end Go.Pe.Tryd
