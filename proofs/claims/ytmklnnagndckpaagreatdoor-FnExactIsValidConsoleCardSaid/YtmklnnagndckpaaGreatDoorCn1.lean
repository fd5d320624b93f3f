/- Consoles: an office and a log; sizes, copies, equality; are they valid? walked, and the law. -/
import Derived.Test.YtmklnnagndckpaaGreatDoorW2

set_option maxRecDepth 100000
set_option maxHeartbeats 4000000
set_option linter.all false
namespace Go.Pe.Tryz
open Go.Proofs.Tryz
/-- a console. -/
structure Con where
  o : Off
  d : List UInt8
  p : List UInt8
  c : Int
def conP (x y : D) : D := .st (.cons x (.cons y .nil))
def Con.s (x : Con) : D := conP x.o.s (logD x.d x.p x.c)
def Con.o' (x : Con) : D := conP x.o.o (logD x.d x.p x.c)
def Con.raw (x : Con) : Prop := x.o.raw ∧ x.d.length ≤ maxLen ∧ x.p.length ≤ maxLen
def Con.ok0 (x : Con) : Prop := x.o.ok0 ∧ x.d.length + x.p.length ≤ 1048576
def conOK (x : Con) : Bool := offOK x.o && lv x.d x.p x.c
theorem logD_noOwn (d p : List UInt8) (c : Int) : (logD d p c).noOwn = true := rfl
theorem logD_unown (d p : List UInt8) (c : Int) : (logD d p c).unown = logD d p c := rfl
theorem logD_isV (d p : List UInt8) (c : Int) : (logD d p c).isV = true := rfl
theorem logD_size (d p : List UInt8) (c : Int) : (logD d p c).size = 3 := rfl
theorem Off.o_noOwn (o : Off) : o.o.noOwn = false := by simp [Off.o, offP, D.noOwn]
theorem Con.s_noOwn (x : Con) : x.s.noOwn = true := by simp [Con.s, conP, D.noOwn, Off.s_noOwn, logD_noOwn]
theorem Con.s_unown (x : Con) : x.s.unown = x.s := by simp [Con.s, conP, D.unown, Off.s_unown, logD_unown]
theorem Con.o_unown (x : Con) : x.o'.unown = x.s := by simp [Con.o', Con.s, conP, D.unown, Off.o_unown, logD_unown]
theorem Con.s_isV (x : Con) : x.s.isV = true := rfl
theorem Con.s_size (x : Con) : x.s.size = 8 := rfl
theorem Con.o_isV (x : Con) : x.o'.isV = true := rfl
theorem Con.o_size (x : Con) : x.o'.size = 8 := rfl
theorem doff_c0 {x : Con} : doff [0] x.s = 0 := rfl
theorem doff_c1 {x : Con} : doff [1] x.s = 5 := rfl
theorem dget_c0 {x : Con} : dget [0] x.s = some x.o.s := rfl
theorem dget_c1 {x : Con} : dget [1] x.s = some (logD x.d x.p x.c) := rfl
theorem rd_con {o : List Ob} {K : SV → Prop} {x : Con} : stepRd o (some 8) x.s K = K (.d x.s) := by simp [Con.s, conP, stepRd, D.size, D.noOwn, Off.s, offP, css_noOwn, strs_noOwn, logD]
theorem rd_log {o : List Ob} {K : SV → Prop} {d p : List UInt8} {c : Int} : stepRd o (some 3) (logD d p c) K = K (.d (logD d p c)) := by simp [stepRd, D.size, D.noOwn, logD]
theorem szLogN_fn (d p : List UInt8) (c n : Int) (h0 : 0 ≤ n) (h1 : n ≤ 1048576) (hd : d.length ≤ maxLen) (hp : p.length ≤ maxLen) : Fn prog 56 [logD d p c, .int .i64 n] (fun rs => ∃ m : Int, rs = [.int .i64 m] ∧ -1 ≤ m ∧ m ≤ n ∧ (0 ≤ m → d.length + p.length ≤ 1048576)) := by
  rw [maxLen_eq] at hd hp
  refine Fn_of' (fn := f56) (by exact func56) c56 r56 (n := 20) (by rfl) (rv := [.tmp 4]) (by rfl) (by simp) ?_
  unfold m56
  simp only [logD]
  repeat' (first
      | (simp only [↓wA, ↓wC, wB, frzBE, frzBS, Nat.reduceEqDiff, Nat.reduceAdd, Nat.reduceSub, reduceIte, reduceCtorEq, Nat.reduceBEq, Nat.reduceLT, decide_true, sz37])
      | (refine onI_bare (by simp only [InR]; omega) ?_)
      | (refine onI_bare (by simp only [InR]; simp only [decide_eq_true_eq, decide_eq_false_iff_not] at *; omega) ?_)
      | (refine execG_split (fun h => ?_) (fun h => ?_) <;> simp only [h])
      | (refine execC_split (fun h => ?_) (fun h => ?_) <;> (try simp only [h]))
      | (refine onPick_split (fun h => ?_) (fun h => ?_) <;> (try simp only [h])))
  all_goals (simp only [decide_eq_true_eq, decide_eq_false_iff_not] at *; exact ⟨_, rfl, by omega, by omega, by omega⟩)
theorem szConsole_fn (x : Con) (h : x.raw) : Fn prog 9 [x.s, .int .i64 1048576] (fun rs => ∃ m : Int, rs = [.int .i64 m] ∧ -1 ≤ m ∧ m ≤ 1048576 ∧ (0 ≤ m → x.ok0)) := by
  have hs := szOff_fn x.o h.1
  refine Fn_of' (fn := f9) (by exact func9) c9 r9 (n := 18) (by rfl) (rv := [.tmp 4]) (by rfl) (by simp) ?_
  unfold m9
  repeat' (first
      | (simp only [doff_c0, doff_c1, dget_c0, dget_c1, logD_noOwn, ↓rd_off, ↓rd_log, Con.s_noOwn, Con.s_isV, Off.s_noOwn, Off.s_isV, onC_true, ↓wA, ↓wC, wB, frzBE, frzBS, Nat.reduceEqDiff, Nat.reduceAdd, Nat.reduceSub, reduceIte, reduceCtorEq, Nat.reduceBEq, Nat.reduceLT, decide_true, sz37])
      | (refine execG_split (fun h => ?_) (fun h => ?_) <;> simp only [h])
      | (refine execC_split (fun h => ?_) (fun h => ?_) <;> (try simp only [h]))
      | (refine onPick_split (fun h => ?_) (fun h => ?_) <;> (try simp only [h])))
  refine call_rel hs (by simp [argsD, argD, Off.s_unown]) fun rs h' => ?_
  obtain ⟨m, rfl, m1, m2, m3⟩ := h'
  refine ⟨.inl rfl, ?_⟩
  cases hm : decide (m < 0) with
  | true =>
    repeat' (first
        | (simp only [hm, ↓wA, ↓wC, wB, frzBE, frzBS, Nat.reduceEqDiff, Nat.reduceAdd, Nat.reduceSub, reduceIte, reduceCtorEq, Nat.reduceBEq, Nat.reduceLT, decide_true, sz37])
        | (refine execG_split (fun h => ?_) (fun h => ?_) <;> simp only [h])
        | (refine execC_split (fun h => ?_) (fun h => ?_) <;> (try simp only [h]))
        | (refine onPick_split (fun h => ?_) (fun h => ?_) <;> (try simp only [h])))
    exact ⟨-1, rfl, by omega, by omega, by omega⟩
  | false =>
    have hm' := of_decide_eq_false hm
    repeat' (first
        | (simp only [hm, doff_c0, doff_c1, dget_c0, dget_c1, logD_noOwn, ↓rd_off, ↓rd_log, onC_true, ↓wA, ↓wC, wB, frzBE, frzBS, Nat.reduceEqDiff, Nat.reduceAdd, Nat.reduceSub, reduceIte, reduceCtorEq, Nat.reduceBEq, Nat.reduceLT, decide_true, sz37])
        | (refine execG_split (fun h => ?_) (fun h => ?_) <;> simp only [h])
        | (refine execC_split (fun h => ?_) (fun h => ?_) <;> (try simp only [h]))
        | (refine onPick_split (fun h => ?_) (fun h => ?_) <;> (try simp only [h])))
    refine call_rel (szLogN_fn x.d x.p x.c m (by omega) m2 h.2.1 h.2.2) (by simp [argsD, argD, logD_unown]) fun rs h' => ?_
    obtain ⟨q, rfl, q1, q2, q3⟩ := h'
    refine ⟨.inl rfl, ?_⟩
    cases hq : decide (q < 0) with
    | true =>
      repeat' (first
          | (simp only [hq, ↓wA, ↓wC, wB, frzBE, frzBS, Nat.reduceEqDiff, Nat.reduceAdd, Nat.reduceSub, reduceIte, reduceCtorEq, Nat.reduceBEq, Nat.reduceLT, decide_true, sz37])
          | (refine execG_split (fun h => ?_) (fun h => ?_) <;> simp only [h])
          | (refine execC_split (fun h => ?_) (fun h => ?_) <;> (try simp only [h]))
          | (refine onPick_split (fun h => ?_) (fun h => ?_) <;> (try simp only [h])))
      exact ⟨-1, rfl, by omega, by omega, by omega⟩
    | false =>
      have hq' := of_decide_eq_false hq
      repeat' (first
          | (simp only [hq, ↓wA, ↓wC, wB, frzBE, frzBS, Nat.reduceEqDiff, Nat.reduceAdd, Nat.reduceSub, reduceIte, reduceCtorEq, Nat.reduceBEq, Nat.reduceLT, decide_true, sz37])
          | (refine execG_split (fun h => ?_) (fun h => ?_) <;> simp only [h])
          | (refine execC_split (fun h => ?_) (fun h => ?_) <;> (try simp only [h]))
          | (refine onPick_split (fun h => ?_) (fun h => ?_) <;> (try simp only [h])))
      exact ⟨q, rfl, by omega, by omega, fun _ => ⟨m3 (by omega), q3 (by omega)⟩⟩
theorem eqConsole_refl (x : Con) (h : x.ok0) : Fn prog 13 [x.s, x.s] (fun rs => rs = [.bool true]) := by
  have h1 := eqOffice_refl x.o h.1
  have h2 := eqLog_fn x.d x.p x.c
  refine Fn_of' (fn := f13) (by exact func13) c13 r13 (n := 17) (by rfl) (rv := [.tmp 4]) (by rfl) (by simp) ?_
  unfold m13
  repeat' (first
      | (simp only [doff_c0, doff_c1, dget_c0, dget_c1, logD_noOwn, ↓rd_off, ↓rd_log, Con.s_noOwn, Con.s_isV, Off.s_noOwn, Off.s_isV, onC_true, decide_true, ↓wA, ↓wC, wB, frzBE, frzBS, Nat.reduceEqDiff, Nat.reduceAdd, Nat.reduceSub, reduceIte, reduceCtorEq, Nat.reduceBEq, Nat.reduceLT, decide_true, sz37])
      | (refine call_det h1 (by simp [argsD, argD, Off.s_unown]) rfl ?_)
      | (refine call_det h2 (by simp [argsD, argD, logD_unown]) rfl ?_)
      | (refine execG_split (fun h => ?_) (fun h => ?_) <;> simp only [h])
      | (refine execC_split (fun h => ?_) (fun h => ?_) <;> (try simp only [h]))
      | (refine onPick_split (fun h => ?_) (fun h => ?_) <;> (try simp only [h])))
  all_goals trace_state
theorem isValidConsole_fn (x : Con) (h : x.ok0) : Fn prog 12 [x.s] (fun rs => rs = [.bool (conOK x)]) := by
  have h1 := isOffice_fn x.o h.1
  have h2 := isValidLog_fn x.d x.p x.c (by have := h.2; omega)
  unfold conOK
  cases hb : offOK x.o <;> rw [hb] at h1
  all_goals
    refine Fn_of' (fn := f12) (by exact func12) c12 r12 (n := 11) (by rfl) (rv := [.tmp 2]) (by rfl) (by simp) ?_
    unfold m12
    repeat' (first
        | (simp only [doff_c0, doff_c1, dget_c0, dget_c1, logD_noOwn, ↓rd_off, ↓rd_log, Con.s_noOwn, Con.s_isV, Off.s_noOwn, Off.s_isV, onC_true, decide_true, ↓wA, ↓wC, wB, frzBE, frzBS, Nat.reduceEqDiff, Nat.reduceAdd, Nat.reduceSub, reduceIte, reduceCtorEq, Nat.reduceBEq, Nat.reduceLT, decide_true, sz37])
        | (refine call_det h1 (by simp [argsD, argD, Off.s_unown]) rfl ?_)
        | (refine call_det h2 (by simp [argsD, argD, logD_unown]) rfl ?_)
        | (refine execG_split (fun h => ?_) (fun h => ?_) <;> simp only [h])
        | (refine execC_split (fun h => ?_) (fun h => ?_) <;> (try simp only [h]))
        | (refine onPick_split (fun h => ?_) (fun h => ?_) <;> (try simp only [h])))
  all_goals simp
theorem l28Good_fn (x : Con) (h : x.ok0) : Fn prog 57 [x.s] (fun rs => rs = [.bool (conOK x)]) := by
  have h1 := l25Good_fn x.o h.1
  have h2 := l27Log_fn x.d x.p x.c (by have := h.2; omega)
  unfold conOK
  cases hb : offOK x.o <;> rw [hb] at h1
  all_goals
    refine Fn_of' (fn := f57) (by exact func57) c57 r57 (n := 11) (by rfl) (rv := [.tmp 2]) (by rfl) (by simp) ?_
    unfold m57
    repeat' (first
        | (simp only [doff_c0, doff_c1, dget_c0, dget_c1, logD_noOwn, ↓rd_off, ↓rd_log, Con.s_noOwn, Con.s_isV, Off.s_noOwn, Off.s_isV, onC_true, decide_true, ↓wA, ↓wC, wB, frzBE, frzBS, Nat.reduceEqDiff, Nat.reduceAdd, Nat.reduceSub, reduceIte, reduceCtorEq, Nat.reduceBEq, Nat.reduceLT, decide_true, sz37])
        | (refine call_det h1 (by simp [argsD, argD, Off.s_unown]) rfl ?_)
        | (refine call_det h2 (by simp [argsD, argD, logD_unown]) rfl ?_)
        | (refine execG_split (fun h => ?_) (fun h => ?_) <;> simp only [h])
        | (refine execC_split (fun h => ?_) (fun h => ?_) <;> (try simp only [h]))
        | (refine onPick_split (fun h => ?_) (fun h => ?_) <;> (try simp only [h])))
  all_goals simp
theorem specIsValidConsole_fn (x : Con) (h : x.ok0) : Fn prog 10 [x.s] (fun rs => rs = [.bool (conOK x)]) := by
  have hG := l28Good_fn x h
  refine Fn_of' (fn := f10) (by exact func10) c10 r10 (n := 5) (by rfl) (rv := [.tmp 2]) (by rfl) (by simp) ?_
  unfold m10
  repeat' (first
      | (simp only [Con.s_noOwn, Con.s_isV, ↓rd_con, onC_true, ↓wA, ↓wC, wB, frzBE, frzBS, Nat.reduceEqDiff, Nat.reduceAdd, Nat.reduceSub, reduceIte, reduceCtorEq, Nat.reduceBEq, Nat.reduceLT, decide_true, sz37])
      | (refine call_det hG (by simp [argsD, argD, Con.s_unown]) rfl ?_)
      | (refine callP_det hG (by simp [argsD, argD, Con.s_unown]) rfl ?_)
      | (refine execG_split (fun h => ?_) (fun h => ?_) <;> simp only [h])
      | (refine execC_split (fun h => ?_) (fun h => ?_) <;> (try simp only [h]))
      | (refine onPick_split (fun h => ?_) (fun h => ?_) <;> (try simp only [h])))
theorem toConsole_own (x : Con) (h : x.ok0) : Fn prog 11 [x.s] (fun rs => rs = [x.o']) := by
  have h1 := toOffice_own x.o h.1
  have h2 := toLog_fn x.d x.p x.c
  refine Fn_ofg (ps := [[1, 1, 1, 1, 0], [1, 1, 1, 1, 0], [1, 1, 1, 1, 1], [1, 1, 1, 1, 1]]) (fn := f11) (by exact func11) c11 r11 (n := 13) (by rfl) (rv := [.cell 2 37]) (by rfl) (by simp) ?_
  unfold m11
  simp only [ghAll, ghAt]
  repeat' (first
      | (simp only [doff_c0, doff_c1, dget_c0, dget_c1, logD_noOwn, ↓rd_off, ↓rd_log, Con.s_noOwn, Con.s_isV, Off.s_noOwn, Off.s_isV, Off.o_isV, Off.o_size, Off.o_noOwn, logD_isV, logD_size, onC_true, decide_true, ↓wA, ↓wC, wB, frzBE, frzBS, Nat.reduceEqDiff, Nat.reduceAdd, Nat.reduceSub, reduceIte, reduceCtorEq, Nat.reduceBEq, Nat.reduceLT, decide_true, sz37])
      | (refine call_det h1 (by simp [argsD, argD, Off.s_unown]) rfl ?_)
      | (refine call_det h2 (by simp [argsD, argD, logD_unown]) rfl ?_)
      | (refine execG_split (fun h => ?_) (fun h => ?_) <;> simp only [h])
      | (refine execC_split (fun h => ?_) (fun h => ?_) <;> (try simp only [h]))
      | (refine onPick_split (fun h => ?_) (fun h => ?_) <;> (try simp only [h])))
  simp only [Off.o, offP]
  refine exec_gh _ (unlink 2 none [0, 1] (es := 4) (xs := dl Cs.o x.o.cs) rfl rfl) fun v1 => ?_
  simp only [obSet, css_noOwn, strs_noOwn, logD_noOwn, onC_true, ↓wA, ↓wC, wB, frzBE, frzBS, Nat.reduceEqDiff, Nat.reduceAdd, Nat.reduceSub, reduceIte, reduceCtorEq, Nat.reduceBEq, Nat.reduceLT, decide_true, sz37]
  refine exec_gh _ (unlink 2 none [0, 4] (es := 1) (xs := dl D.str x.o.led) rfl rfl) fun v2 => ?_
  simp only [obSet, css_noOwn, strs_noOwn, logD_noOwn, logD, onC_true, ↓wA, ↓wC, wB, frzBE, frzBS, Nat.reduceEqDiff, Nat.reduceAdd, Nat.reduceSub, reduceIte, reduceCtorEq, Nat.reduceBEq, Nat.reduceLT, decide_true, sz37]
  refine exec_gh1 (relink 1 5 4 none [0, 1] rfl rfl rfl rfl (by decide) rfl) ?_
  simp only [obSet, css_noOwn, strs_noOwn, onC_true, ↓wA, ↓wC, wB, frzBE, frzBS, Nat.reduceEqDiff, Nat.reduceAdd, Nat.reduceSub, reduceIte, reduceCtorEq, Nat.reduceBEq, Nat.reduceLT, decide_true, sz37]
  refine exec_gh1 (relink 1 7 6 none [0, 4] rfl rfl rfl rfl (by decide) rfl) ?_
  simp only [obSet, css_noOwn, strs_noOwn, onC_true, ↓wA, ↓wC, wB, frzBE, frzBS, Nat.reduceEqDiff, Nat.reduceAdd, Nat.reduceSub, reduceIte, reduceCtorEq, Nat.reduceBEq, Nat.reduceLT, decide_true, sz37]
  rfl
def logShC : Sh := .st (.cons .str (.cons .str (.cons (.int .i64) .nil)))
def conSh : Sh := .st (.cons offSh (.cons logShC .nil))
theorem con_of (x : D) (h : Typed conSh x) : ∃ c : Con, x = c.s ∧ c.raw := by
  obtain ⟨_, rfl, xo, _, rfl, h1, xl, _, rfl, h2, rfl⟩ := h
  obtain ⟨o, rfl, hr⟩ := off_of xo h1
  obtain ⟨_, rfl, _, _, rfl, ⟨d, rfl, hd⟩, _, _, rfl, ⟨p, rfl, hp⟩, _, _, rfl, ⟨c, rfl, _⟩, rfl⟩ := h2
  exact ⟨⟨o, d, p, c⟩, rfl, hr, hd, hp⟩
theorem lawIsValidConsole_fn (x : Con) (hr : x.raw) : Fn prog 3 [x.s] (fun rs => rs = [.bool true]) := by
  refine Fn_of' (fn := f3) (by exact func3) c3 r3 (n := 27) (by rfl) (rv := [.tmp 2]) (by rfl) (by simp) ?_
  unfold m3
  repeat' (first
      | (simp only [Con.s_noOwn, Con.s_isV, ↓rd_con, onC_true, ↓wA, ↓wC, wB, frzBE, frzBS, Nat.reduceEqDiff, Nat.reduceAdd, Nat.reduceSub, reduceIte, reduceCtorEq, Nat.reduceBEq, Nat.reduceLT, decide_true, sz37])
      | (refine execG_split (fun h => ?_) (fun h => ?_) <;> simp only [h])
      | (refine execC_split (fun h => ?_) (fun h => ?_) <;> (try simp only [h]))
      | (refine onPick_split (fun h => ?_) (fun h => ?_) <;> (try simp only [h])))
  refine call_rel (szConsole_fn x hr) (by simp [argsD, argD, Con.s_unown]) fun rs h => ?_
  obtain ⟨m, rfl, m1, m2, m3⟩ := h
  refine ⟨.inl rfl, ?_⟩
  cases hd : decide (m < 0) with
  | true =>
    repeat' (first
        | (simp only [hd, ↓wA, ↓wC, wB, frzBE, frzBS, Nat.reduceEqDiff, Nat.reduceAdd, Nat.reduceSub, reduceIte, reduceCtorEq, Nat.reduceBEq, Nat.reduceLT, decide_true, sz37])
        | (refine execG_split (fun h => ?_) (fun h => ?_) <;> simp only [h])
        | (refine execC_split (fun h => ?_) (fun h => ?_) <;> (try simp only [h]))
        | (refine onPick_split (fun h => ?_) (fun h => ?_) <;> (try simp only [h])))
  | false =>
    have hd' := of_decide_eq_false hd
    have ho := m3 (by omega)
    have hT : Fn prog 11 [x.s] (fun rs => rs = [x.s]) := by simpa [Con.o_unown] using Fn_unown (toConsole_own x ho)
    have hS := specIsValidConsole_fn x ho
    have hI := isValidConsole_fn x ho
    have hE := eqConsole_refl x ho
    generalize conOK x = b at *
    have hbb : (b == b) = true := by cases b <;> rfl
    repeat' (first
        | (simp only [hd, hbb, Con.s_noOwn, Con.s_isV, Con.s_size, ↓rd_con, onC_true, ↓wA, ↓wC, wB, frzBE, frzBS, Nat.reduceEqDiff, Nat.reduceAdd, Nat.reduceSub, reduceIte, reduceCtorEq, Nat.reduceBEq, Nat.reduceLT, decide_true, sz37])
        | (refine call_det hT (by simp [argsD, argD, Con.s_unown]) rfl ?_)
        | (refine callP_det hT (by simp [argsD, argD, Con.s_unown]) rfl ?_)
        | (refine call_det hS (by simp [argsD, argD, Con.s_unown]) rfl ?_)
        | (refine call_det hI (by simp [argsD, argD, Con.s_unown]) rfl ?_)
        | (refine callP_det hE (by simp [argsD, argD, Con.s_unown]) rfl ?_)
        | (refine execG_split (fun h => ?_) (fun h => ?_) <;> simp only [h])
        | (refine execC_split (fun h => ?_) (fun h => ?_) <;> (try simp only [h]))
        | (refine onPick_split (fun h => ?_) (fun h => ?_) <;> (try simp only [h])))
    all_goals trace_state
theorem lawIsValidConsole (x0 : D) (h0 : Typed conSh x0) : Fn prog 3 [x0] (fun rs => rs = [.bool true]) := by
  obtain ⟨o, rfl, hr⟩ := con_of x0 h0
  exact lawIsValidConsole_fn o hr
end Go.Pe.Tryz
