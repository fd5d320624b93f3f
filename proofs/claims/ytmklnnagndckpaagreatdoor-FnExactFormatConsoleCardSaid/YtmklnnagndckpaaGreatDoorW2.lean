/- Offices among the laws' helpers: sizes, copies, equality; walked; Entries of a ledger: strings.Trim, walked; what an entry is; Valid offices, walked; Is it an office? walked, and the law; Consoles: an office and a log; sizes, copies, equality; are they valid? walked, and the law; Texts of cases (strings.Join, decimals, caseText, l25Text), walked -/
import Derived.Test.YtmklnnagndckpaaGreatDoorW1
import Derived.Test.YtmklnnagndckpaaGreatDoorShelf
import Derived.Lib.AsciiSet
set_option maxRecDepth 100000
set_option maxHeartbeats 4000000
set_option linter.all false
namespace Go.Pe.Tryz
open Go.Proofs.Tryz
/-- a case. -/
structure Cs where
  i : Int
  a : Int
  d : Int
  h : List Int
def Cs.p (x : Cs) (dh : D) : D := .st (.cons (.int .i64 x.i) (.cons (.int .i64 x.a) (.cons (.int .i64 x.d) (.cons dh .nil))))
def Cs.s (x : Cs) : D := x.p (.sl false 1 (dl iD x.h))
def Cs.o (x : Cs) : D := x.p (.sl true 1 (dl iD x.h))
def Cs.ok0 (x : Cs) : Prop := x.h.length ≤ 1048576
/-- an office. -/
structure Off where
  day : Int
  cs : List Cs
  kept : Int
  moved : Int
  led : List (List UInt8)
def offP (o : Off) (dc dd : D) : D := .st (.cons (.int .i64 o.day) (.cons dc (.cons (.int .i64 o.kept) (.cons (.int .i64 o.moved) (.cons dd .nil)))))
def Off.s (o : Off) : D := offP o (.sl false 4 (dl Cs.s o.cs)) (.sl false 1 (dl D.str o.led))
def Off.o (o : Off) : D := offP o (.sl true 4 (dl Cs.o o.cs)) (.sl true 1 (dl D.str o.led))
def strsOk (L : List (List UInt8)) : Prop := L.length ≤ 1048576 ∧ ∀ s ∈ L, s.length ≤ 1048576
def casesOk (xs : List Cs) : Prop := xs.length ≤ 1048576 ∧ ∀ x ∈ xs, x.ok0
def Off.ok0 (o : Off) : Prop := casesOk o.cs ∧ strsOk o.led
theorem strs_noOwn (L : List (List UInt8)) : (dl D.str L).noOwn = true := dl_noOwn (fun _ => rfl) L
theorem strs_unown (L : List (List UInt8)) : (dl D.str L).unown = dl D.str L := dl_unown (fun _ => rfl) L
theorem Cs.s_noOwn (x : Cs) : x.s.noOwn = true := by simp [Cs.s, Cs.p, D.noOwn, ints_noOwn]
theorem Cs.s_unown (x : Cs) : x.s.unown = x.s := by simp [Cs.s, Cs.p, D.unown, ints_unown]
theorem Cs.o_unown (x : Cs) : x.o.unown = x.s := by simp [Cs.o, Cs.s, Cs.p, D.unown, ints_unown]
theorem Cs.o_noOwn (x : Cs) : x.o.noOwn = false := by simp [Cs.o, Cs.p, D.noOwn]
theorem Cs.s_isV (x : Cs) : x.s.isV = true := rfl
theorem Cs.s_size (x : Cs) : x.s.size = 4 := rfl
theorem Cs.o_isV (x : Cs) : x.o.isV = true := rfl
theorem Cs.o_size (x : Cs) : x.o.size = 4 := rfl
theorem css_noOwn (xs : List Cs) : (dl Cs.s xs).noOwn = true := dl_noOwn Cs.s_noOwn xs
theorem css_unown (xs : List Cs) : (dl Cs.s xs).unown = dl Cs.s xs := dl_unown Cs.s_unown xs
theorem cso_unown : ∀ xs : List Cs, (dl Cs.o xs).unown = dl Cs.s xs
  | [] => rfl
  | x :: xs => by
    have := cso_unown xs
    simp only [dl, List.map_cons, ofL, D.unown, Cs.o_unown] at this ⊢
    rw [this]
theorem Off.s_noOwn (o : Off) : o.s.noOwn = true := by simp [Off.s, offP, D.noOwn, css_noOwn, strs_noOwn]
theorem Off.s_unown (o : Off) : o.s.unown = o.s := by simp [Off.s, offP, D.unown, css_unown, strs_unown]
theorem Off.o_unown (o : Off) : o.o.unown = o.s := by simp [Off.s, Off.o, offP, D.unown, cso_unown, strs_unown]
theorem rd_cs {o : List Ob} {K : SV → Prop} {x : Cs} : stepRd o (some 4) x.s K = K (.d x.s) := by simp [Cs.s, Cs.p, stepRd, D.size, D.noOwn, ints_noOwn]
theorem rd_off {o : List Ob} {K : SV → Prop} {x : Off} : stepRd o (some 5) x.s K = K (.d x.s) := by simp [Off.s, offP, stepRd, D.size, D.noOwn, css_noOwn, strs_noOwn]
/-! sizes -/
theorem take_get {α : Type} {xs : List α} {i : Nat} {r : α} (hr : xs[i]? = some r) : xs.take (i + 1) = xs.take i ++ [r] := by
  have hi := lt_of_get hr
  rw [List.take_succ_eq_append_getElem hi]
  rw [List.getElem?_eq_getElem hi] at hr
  injection hr with hr
  rw [hr]
theorem Fn_mono {P : PG} {f : FuncId} {ds : List D} {R S : List D → Prop} (h : Fn P f ds R) (hs : ∀ rs, R rs → S rs) : Fn P f ds S := by
  intro M vs w h1 h2 h3
  refine (h M vs w h1 h2 h3).mono ?_
  rintro e w' ⟨rs, us, fp, e1, e2, e3⟩
  exact ⟨rs, us, fp, e1, hs rs e2, e3⟩
theorem szI_fn (v : List Int) (n : Int) (h0 : 0 ≤ n) (h1 : n ≤ 1048576) (hm : v.length ≤ maxLen) : Fn prog 150 [.sl false 1 (dl iD v), .int .i64 n] (fun rs => ∃ m : Int, rs = [.int .i64 m] ∧ -1 ≤ m ∧ m ≤ n ∧ (0 ≤ m → v.length ≤ 1048576)) :=
  Fn_mono (szIntS_fn v n h0 h1 hm) fun rs hr => by
    subst hr
    refine ⟨_, rfl, ?_, ?_, ?_⟩ <;> split <;> omega
theorem szCase_fn (x : Cs) (n : Int) (h0 : 0 ≤ n) (h1 : n ≤ 1048576) (hm : x.h.length ≤ maxLen) : Fn prog 111 [x.s, .int .i64 n] (fun rs => ∃ m : Int, rs = [.int .i64 m] ∧ -1 ≤ m ∧ m ≤ n ∧ (0 ≤ m → x.ok0)) := by
  refine Fn_of' (fn := f111) (by exact func111) c111 r111 (n := 12) (by rfl) (rv := [.tmp 4]) (by rfl) (by simp) ?_
  unfold m111
  simp only [Cs.s, Cs.p]
  repeat' (first
      | (simp only [ints_noOwn, onC_true, ↓wA, ↓wC, wB, frzBE, frzBS, Nat.reduceEqDiff, Nat.reduceAdd, Nat.reduceSub, reduceIte, reduceCtorEq, Nat.reduceBEq, Nat.reduceLT, decide_true, sz34, sz90])
      | (refine execG_split (fun h => ?_) (fun h => ?_) <;> simp only [h])
      | (refine execC_split (fun h => ?_) (fun h => ?_) <;> (try simp only [h]))
      | (refine onPick_split (fun h => ?_) (fun h => ?_) <;> (try simp only [h])))
  refine call_rel (szI_fn x.h n h0 h1 hm) rfl fun rs h => ?_
  obtain ⟨m, rfl, e1, e2, e3⟩ := h
  refine ⟨.inl rfl, ?_⟩
  cases hd : decide (m < 0) with
  | true =>
    repeat' (first
        | (simp only [hd, ↓wA, ↓wC, wB, frzBE, frzBS, Nat.reduceEqDiff, Nat.reduceAdd, Nat.reduceSub, reduceIte, reduceCtorEq, Nat.reduceBEq, Nat.reduceLT, decide_true, sz34, sz90])
        | (refine execG_split (fun h => ?_) (fun h => ?_) <;> simp only [h])
        | (refine execC_split (fun h => ?_) (fun h => ?_) <;> (try simp only [h]))
        | (refine onPick_split (fun h => ?_) (fun h => ?_) <;> (try simp only [h])))
    exact ⟨-1, rfl, by omega, by omega, by omega⟩
  | false =>
    have := of_decide_eq_false hd
    repeat' (first
        | (simp only [hd, ↓wA, ↓wC, wB, frzBE, frzBS, Nat.reduceEqDiff, Nat.reduceAdd, Nat.reduceSub, reduceIte, reduceCtorEq, Nat.reduceBEq, Nat.reduceLT, decide_true, sz34, sz90])
        | (refine execG_split (fun h => ?_) (fun h => ?_) <;> simp only [h])
        | (refine execC_split (fun h => ?_) (fun h => ?_) <;> (try simp only [h]))
        | (refine onPick_split (fun h => ?_) (fun h => ?_) <;> (try simp only [h])))
    exact ⟨m, rfl, e1, e2, fun h => e3 h⟩
theorem szCaseS_fn (xs : List Cs) (n : Int) (h0 : 0 ≤ n) (h1 : n ≤ 1048576) (hlen : xs.length ≤ maxLen) (hx : ∀ x ∈ xs, x.h.length ≤ maxLen) : Fn prog 65 [.sl false 4 (dl Cs.s xs), .int .i64 n] (fun rs => ∃ m : Int, rs = [.int .i64 m] ∧ -1 ≤ m ∧ m ≤ n ∧ (0 ≤ m → casesOk xs)) := by
  have hm' : maxLen = 9223372036854775807 := by rfl
  refine Fn_of' (fn := f65) (by exact func65) c65 r65 (n := 27) (by rfl) (rv := [.tmp 4]) (by rfl) (by simp) ?_
  unfold m65
  simp only [dl_len, ↓wA, ↓wC, wB, frzBE, frzBS, Nat.reduceEqDiff, Nat.reduceAdd, Nat.reduceSub, reduceIte, reduceCtorEq, Nat.reduceBEq, Nat.reduceLT, decide_true, sz34, sz90]
  refine onI_bare (by simp only [InR]; omega) ?_
  cases hd : decide (n - (xs.length : Int) < 0) with
  | true =>
    repeat' (first
        | (simp only [hd, ↓wA, ↓wC, wB, frzBE, frzBS, Nat.reduceEqDiff, Nat.reduceAdd, Nat.reduceSub, reduceIte, reduceCtorEq, Nat.reduceBEq, Nat.reduceLT, decide_true, sz34, sz90])
        | (refine execG_split (fun h => ?_) (fun h => ?_) <;> simp only [h])
        | (refine execC_split (fun h => ?_) (fun h => ?_) <;> (try simp only [h]))
        | (refine onPick_split (fun h => ?_) (fun h => ?_) <;> (try simp only [h])))
    exact ⟨-1, rfl, by omega, by omega, by omega⟩
  | false =>
    have hd' := of_decide_eq_false hd
    repeat' (first
        | (simp only [hd, ↓wA, ↓wC, wB, frzBE, frzBS, Nat.reduceEqDiff, Nat.reduceAdd, Nat.reduceSub, reduceIte, reduceCtorEq, Nat.reduceBEq, Nat.reduceLT, decide_true, sz34, sz90])
        | (refine execG_split (fun h => ?_) (fun h => ?_) <;> simp only [h])
        | (refine execC_split (fun h => ?_) (fun h => ?_) <;> (try simp only [h]))
        | (refine onPick_split (fun h => ?_) (fun h => ?_) <;> (try simp only [h])))
    refine exec_loop (fun x : Nat × Int => ⟨[(0, .d (.sl false 4 (dl Cs.s xs))), (1, .d (.int .i64 x.2)), (5, .d (.int .i64 x.1))], []⟩)
      (fun x => x.1 ≤ xs.length ∧ 0 ≤ x.2 ∧ x.2 ≤ n - xs.length ∧ ∀ y ∈ xs.take x.1, y.ok0) (fun x => xs.length - x.1) (0, n - xs.length) (weak_of _ rfl ⟨⟨rfl, rfl⟩, ⟨rfl, rfl⟩, ⟨rfl, rfl⟩, trivial⟩) ⟨by simp, by simp only; omega, by simp only; omega, by simp⟩ ?_
    rintro ⟨i, m⟩ ⟨i1, i2, i3, i4⟩
    simp only at i1 i2 i3 i4 ⊢
    by_cases hlt : i < xs.length
    · obtain ⟨r, hr⟩ := get_lt hlt
      have hd2 : decide ((i : Int) < (xs.length : Int)) = true := decide_eq_true (by omega)
      have hi0 : (0 : Int) ≤ (i : Int) := by omega
      repeat' (first
          | (simp only [dl_len, dl_nth, hd2, hi0, Int.toNat_natCast, hr, Option.map_some, ↓rd_cs, onC_true, ↓wA, ↓wC, wB, frzBE, frzBS, Nat.reduceEqDiff, Nat.reduceAdd, Nat.reduceSub, reduceIte, reduceCtorEq, Nat.reduceBEq, Nat.reduceLT, decide_true, sz34, sz90])
          | (refine execG_split (fun h => ?_) (fun h => ?_) <;> simp only [h])
          | (refine execC_split (fun h => ?_) (fun h => ?_) <;> (try simp only [h]))
          | (refine onPick_split (fun h => ?_) (fun h => ?_) <;> (try simp only [h])))
      refine call_rel (szCase_fn r m i2 (by omega) (hx r (List.mem_of_getElem? hr))) (by simp [argsD, argD, Cs.s_unown]) fun rs h => ?_
      obtain ⟨q, rfl, e1, e2, e3⟩ := h
      refine ⟨.inl rfl, ?_⟩
      cases hq : decide (q < 0) with
      | true =>
        repeat' (first
            | (simp only [hq, ↓wA, ↓wC, wB, frzBE, frzBS, Nat.reduceEqDiff, Nat.reduceAdd, Nat.reduceSub, reduceIte, reduceCtorEq, Nat.reduceBEq, Nat.reduceLT, decide_true, sz34, sz90])
            | (refine execG_split (fun h => ?_) (fun h => ?_) <;> simp only [h])
            | (refine execC_split (fun h => ?_) (fun h => ?_) <;> (try simp only [h]))
            | (refine onPick_split (fun h => ?_) (fun h => ?_) <;> (try simp only [h])))
        exact ⟨-1, rfl, by omega, by omega, by omega⟩
      | false =>
        have hq' := of_decide_eq_false hq
        repeat' (first
            | (simp only [hq, ↓wA, ↓wC, wB, frzBE, frzBS, Nat.reduceEqDiff, Nat.reduceAdd, Nat.reduceSub, reduceIte, reduceCtorEq, Nat.reduceBEq, Nat.reduceLT, decide_true, sz34, sz90])
            | (with_reducible refine onI_bare ?_ ?_; focus (simp only [InR]; omega))
            | (refine execG_split (fun h => ?_) (fun h => ?_) <;> simp only [h])
            | (refine execC_split (fun h => ?_) (fun h => ?_) <;> (try simp only [h]))
            | (refine onPick_split (fun h => ?_) (fun h => ?_) <;> (try simp only [h])))
        refine ⟨(i + 1, q), (weak_of _ rfl ⟨⟨rfl, rfl⟩, ⟨rfl, rfl⟩, ⟨rfl, rfl⟩, trivial⟩), ⟨by simp only; omega, by simp only; omega, by simp only; omega, fun y hy => ?_⟩, by simp only; omega⟩
        rw [take_get hr] at hy
        rcases List.mem_append.1 hy with hy | hy
        · exact i4 y hy
        · rw [List.mem_singleton.1 hy]; exact e3 (by omega)
    · have hd2 : decide ((i : Int) < (xs.length : Int)) = false := decide_eq_false (by omega)
      have e : i = xs.length := by omega
      repeat' (first
          | (simp only [dl_len, hd2, ↓wA, ↓wC, wB, frzBE, frzBS, Nat.reduceEqDiff, Nat.reduceAdd, Nat.reduceSub, reduceIte, reduceCtorEq, Nat.reduceBEq, Nat.reduceLT, decide_true, sz34, sz90])
          | (refine execG_split (fun h => ?_) (fun h => ?_) <;> simp only [h])
          | (refine execC_split (fun h => ?_) (fun h => ?_) <;> (try simp only [h]))
          | (refine onPick_split (fun h => ?_) (fun h => ?_) <;> (try simp only [h])))
      refine ⟨m, rfl, by omega, by omega, fun _ => ⟨by omega, fun y hy => i4 y (by rw [e, List.take_length]; exact hy)⟩⟩
theorem szStringS_fn (L : List (List UInt8)) (n : Int) (h0 : 0 ≤ n) (h1 : n ≤ 1048576) (hlen : L.length ≤ maxLen) (hx : ∀ s ∈ L, s.length ≤ maxLen) : Fn prog 66 [.sl false 1 (dl D.str L), .int .i64 n] (fun rs => ∃ m : Int, rs = [.int .i64 m] ∧ -1 ≤ m ∧ m ≤ n ∧ (0 ≤ m → strsOk L)) := by
  have hm' : maxLen = 9223372036854775807 := by rfl
  refine Fn_of' (fn := f66) (by exact func66) c66 r66 (n := 28) (by rfl) (rv := [.tmp 4]) (by rfl) (by simp) ?_
  unfold m66
  simp only [dl_len, ↓wA, ↓wC, wB, frzBE, frzBS, Nat.reduceEqDiff, Nat.reduceAdd, Nat.reduceSub, reduceIte, reduceCtorEq, Nat.reduceBEq, Nat.reduceLT, decide_true, sz34, sz90]
  refine onI_bare (by simp only [InR]; omega) ?_
  cases hd : decide (n - (L.length : Int) < 0) with
  | true =>
    repeat' (first
        | (simp only [hd, ↓wA, ↓wC, wB, frzBE, frzBS, Nat.reduceEqDiff, Nat.reduceAdd, Nat.reduceSub, reduceIte, reduceCtorEq, Nat.reduceBEq, Nat.reduceLT, decide_true, sz34, sz90])
        | (refine execG_split (fun h => ?_) (fun h => ?_) <;> simp only [h])
        | (refine execC_split (fun h => ?_) (fun h => ?_) <;> (try simp only [h]))
        | (refine onPick_split (fun h => ?_) (fun h => ?_) <;> (try simp only [h])))
    exact ⟨-1, rfl, by omega, by omega, by omega⟩
  | false =>
    have hd' := of_decide_eq_false hd
    repeat' (first
        | (simp only [hd, ↓wA, ↓wC, wB, frzBE, frzBS, Nat.reduceEqDiff, Nat.reduceAdd, Nat.reduceSub, reduceIte, reduceCtorEq, Nat.reduceBEq, Nat.reduceLT, decide_true, sz34, sz90])
        | (refine execG_split (fun h => ?_) (fun h => ?_) <;> simp only [h])
        | (refine execC_split (fun h => ?_) (fun h => ?_) <;> (try simp only [h]))
        | (refine onPick_split (fun h => ?_) (fun h => ?_) <;> (try simp only [h])))
    refine exec_loop (fun x : Nat × Int => ⟨[(0, .d (.sl false 1 (dl D.str L))), (1, .d (.int .i64 x.2)), (5, .d (.int .i64 x.1))], []⟩)
      (fun x => x.1 ≤ L.length ∧ 0 ≤ x.2 ∧ x.2 ≤ n - L.length ∧ ∀ y ∈ L.take x.1, y.length ≤ 1048576) (fun x => L.length - x.1) (0, n - L.length) (weak_of _ rfl ⟨⟨rfl, rfl⟩, ⟨rfl, rfl⟩, ⟨rfl, rfl⟩, trivial⟩) ⟨by simp, by simp only; omega, by simp only; omega, by simp⟩ ?_
    rintro ⟨i, m⟩ ⟨i1, i2, i3, i4⟩
    simp only at i1 i2 i3 i4 ⊢
    by_cases hlt : i < L.length
    · obtain ⟨r, hr⟩ := get_lt hlt
      have hd2 : decide ((i : Int) < (L.length : Int)) = true := decide_eq_true (by omega)
      have hi0 : (0 : Int) ≤ (i : Int) := by omega
      have hrl := hx r (List.mem_of_getElem? hr)
      cases hq : decide (m - (r.length : Int) < 0) with
      | true =>
        repeat' (first
            | (simp only [dl_len, dl_nth, hd2, hi0, hq, Int.toNat_natCast, hr, Option.map_some, onC_true, ↓wA, ↓wC, wB, frzBE, frzBS, Nat.reduceEqDiff, Nat.reduceAdd, Nat.reduceSub, reduceIte, reduceCtorEq, Nat.reduceBEq, Nat.reduceLT, decide_true, sz34, sz90])
            | (with_reducible refine onI_bare ?_ ?_; focus (simp only [InR]; omega))
            | (refine execG_split (fun h => ?_) (fun h => ?_) <;> simp only [h])
            | (refine execC_split (fun h => ?_) (fun h => ?_) <;> (try simp only [h]))
            | (refine onPick_split (fun h => ?_) (fun h => ?_) <;> (try simp only [h])))
        all_goals exact ⟨-1, rfl, by omega, by omega, by omega⟩
      | false =>
        have hq' := of_decide_eq_false hq
        repeat' (first
            | (simp only [dl_len, dl_nth, hd2, hi0, hq, Int.toNat_natCast, hr, Option.map_some, onC_true, ↓wA, ↓wC, wB, frzBE, frzBS, Nat.reduceEqDiff, Nat.reduceAdd, Nat.reduceSub, reduceIte, reduceCtorEq, Nat.reduceBEq, Nat.reduceLT, decide_true, sz34, sz90])
            | (with_reducible refine onI_bare ?_ ?_; focus (simp only [InR]; omega))
            | (refine execG_split (fun h => ?_) (fun h => ?_) <;> simp only [h])
            | (refine execC_split (fun h => ?_) (fun h => ?_) <;> (try simp only [h]))
            | (refine onPick_split (fun h => ?_) (fun h => ?_) <;> (try simp only [h])))
        all_goals
          refine ⟨(i + 1, m - r.length), (weak_of _ rfl ⟨⟨rfl, rfl⟩, ⟨rfl, rfl⟩, ⟨rfl, rfl⟩, trivial⟩), ⟨by simp only; omega, by simp only; omega, by simp only; omega, fun y hy => ?_⟩, by simp only; omega⟩
          rw [take_get hr] at hy
          rcases List.mem_append.1 hy with hy | hy
          · exact i4 y hy
          · rw [List.mem_singleton.1 hy]; omega
    · have hd2 : decide ((i : Int) < (L.length : Int)) = false := decide_eq_false (by omega)
      have e : i = L.length := by omega
      repeat' (first
          | (simp only [dl_len, hd2, ↓wA, ↓wC, wB, frzBE, frzBS, Nat.reduceEqDiff, Nat.reduceAdd, Nat.reduceSub, reduceIte, reduceCtorEq, Nat.reduceBEq, Nat.reduceLT, decide_true, sz34, sz90])
          | (refine execG_split (fun h => ?_) (fun h => ?_) <;> simp only [h])
          | (refine execC_split (fun h => ?_) (fun h => ?_) <;> (try simp only [h]))
          | (refine onPick_split (fun h => ?_) (fun h => ?_) <;> (try simp only [h])))
      refine ⟨m, rfl, by omega, by omega, fun _ => ⟨by omega, fun y hy => i4 y (by rw [e, List.take_length]; exact hy)⟩⟩
theorem szOffice_fn (o : Off) (n : Int) (h0 : 0 ≤ n) (h1 : n ≤ 1048576) (c1 : o.cs.length ≤ maxLen) (c2 : ∀ x ∈ o.cs, x.h.length ≤ maxLen) (c3 : o.led.length ≤ maxLen) (c4 : ∀ s ∈ o.led, s.length ≤ maxLen) : Fn prog 16 [o.s, .int .i64 n] (fun rs => ∃ m : Int, rs = [.int .i64 m] ∧ -1 ≤ m ∧ m ≤ n ∧ (0 ≤ m → o.ok0)) := by
  refine Fn_of' (fn := f16) (by exact func16) c16 r16 (n := 18) (by rfl) (rv := [.tmp 4]) (by rfl) (by simp) ?_
  unfold m16
  simp only [Off.s, offP]
  repeat' (first
      | (simp only [css_noOwn, strs_noOwn, onC_true, ↓wA, ↓wC, wB, frzBE, frzBS, Nat.reduceEqDiff, Nat.reduceAdd, Nat.reduceSub, reduceIte, reduceCtorEq, Nat.reduceBEq, Nat.reduceLT, decide_true, sz34, sz90])
      | (refine execG_split (fun h => ?_) (fun h => ?_) <;> simp only [h])
      | (refine execC_split (fun h => ?_) (fun h => ?_) <;> (try simp only [h]))
      | (refine onPick_split (fun h => ?_) (fun h => ?_) <;> (try simp only [h])))
  refine call_rel (szCaseS_fn o.cs n h0 h1 c1 c2) rfl fun rs h => ?_
  obtain ⟨m, rfl, e1, e2, e3⟩ := h
  refine ⟨.inl rfl, ?_⟩
  cases hd : decide (m < 0) with
  | true =>
    repeat' (first
        | (simp only [hd, ↓wA, ↓wC, wB, frzBE, frzBS, Nat.reduceEqDiff, Nat.reduceAdd, Nat.reduceSub, reduceIte, reduceCtorEq, Nat.reduceBEq, Nat.reduceLT, decide_true, sz34, sz90])
        | (refine execG_split (fun h => ?_) (fun h => ?_) <;> simp only [h])
        | (refine execC_split (fun h => ?_) (fun h => ?_) <;> (try simp only [h]))
        | (refine onPick_split (fun h => ?_) (fun h => ?_) <;> (try simp only [h])))
    exact ⟨-1, rfl, by omega, by omega, by omega⟩
  | false =>
    have hd' := of_decide_eq_false hd
    repeat' (first
        | (simp only [hd, css_noOwn, strs_noOwn, onC_true, ↓wA, ↓wC, wB, frzBE, frzBS, Nat.reduceEqDiff, Nat.reduceAdd, Nat.reduceSub, reduceIte, reduceCtorEq, Nat.reduceBEq, Nat.reduceLT, decide_true, sz34, sz90])
        | (refine execG_split (fun h => ?_) (fun h => ?_) <;> simp only [h])
        | (refine execC_split (fun h => ?_) (fun h => ?_) <;> (try simp only [h]))
        | (refine onPick_split (fun h => ?_) (fun h => ?_) <;> (try simp only [h])))
    refine call_rel (szStringS_fn o.led m (by omega) (by omega) c3 c4) rfl fun rs h => ?_
    obtain ⟨q, rfl, f1, f2, f3⟩ := h
    refine ⟨.inl rfl, ?_⟩
    cases hq : decide (q < 0) with
    | true =>
      repeat' (first
          | (simp only [hq, ↓wA, ↓wC, wB, frzBE, frzBS, Nat.reduceEqDiff, Nat.reduceAdd, Nat.reduceSub, reduceIte, reduceCtorEq, Nat.reduceBEq, Nat.reduceLT, decide_true, sz34, sz90])
          | (refine execG_split (fun h => ?_) (fun h => ?_) <;> simp only [h])
          | (refine execC_split (fun h => ?_) (fun h => ?_) <;> (try simp only [h]))
          | (refine onPick_split (fun h => ?_) (fun h => ?_) <;> (try simp only [h])))
      exact ⟨-1, rfl, by omega, by omega, by omega⟩
    | false =>
      repeat' (first
          | (simp only [hq, ↓wA, ↓wC, wB, frzBE, frzBS, Nat.reduceEqDiff, Nat.reduceAdd, Nat.reduceSub, reduceIte, reduceCtorEq, Nat.reduceBEq, Nat.reduceLT, decide_true, sz34, sz90])
          | (refine execG_split (fun h => ?_) (fun h => ?_) <;> simp only [h])
          | (refine execC_split (fun h => ?_) (fun h => ?_) <;> (try simp only [h]))
          | (refine onPick_split (fun h => ?_) (fun h => ?_) <;> (try simp only [h])))
      exact ⟨q, rfl, f1, by omega, fun h => ⟨e3 (by omega), f3 h⟩⟩
/-! equality -/
theorem eqStringS_refl (L : List (List UInt8)) (hlen : L.length ≤ 1048576) : Fn prog 76 [.sl false 1 (dl D.str L), .sl false 1 (dl D.str L)] (fun rs => rs = [.bool true]) := by
  refine Fn_of' (fn := f76) (by exact func76) c76 r76 (n := 26) (by rfl) (rv := [.tmp 4]) (by rfl) (by simp) ?_
  unfold m76
  repeat' (first
      | (simp only [dl_len, ↓wA, ↓wC, wB, frzBE, frzBS, Nat.reduceEqDiff, Nat.reduceAdd, Nat.reduceSub, reduceIte, reduceCtorEq, Nat.reduceBEq, Nat.reduceLT, decide_true, sz34, sz90])
      | (refine execG_split (fun h => ?_) (fun h => ?_) <;> simp only [h])
      | (refine execC_split (fun h => ?_) (fun h => ?_) <;> (try simp only [h]))
      | (refine onPick_split (fun h => ?_) (fun h => ?_) <;> (try simp only [h])))
  refine exec_range L.length (fun i : Nat => ⟨[(0, .d (.sl false 1 (dl D.str L))), (1, .d (.sl false 1 (dl D.str L))), (5, .d (.int .i64 i))], []⟩) (fun _ => True) (weak_of _ rfl ⟨⟨rfl, rfl⟩, ⟨rfl, rfl⟩, ⟨rfl, rfl⟩, trivial⟩) trivial ?_ ?_
  · intro i hlt _ hd h0
    obtain ⟨r, hr⟩ := get_lt hlt
    repeat' (first
        | (simp only [dl_len, dl_nth, hd, Int.toNat_natCast, hr, Option.map_some, h0, onC_true, decide_true, ↓wA, ↓wC, wB, frzBE, frzBS, Nat.reduceEqDiff, Nat.reduceAdd, Nat.reduceSub, reduceIte, reduceCtorEq, Nat.reduceBEq, Nat.reduceLT, decide_true, sz34, sz90])
        | (with_reducible refine onI_bare ?_ ?_; focus (simp only [InR]; omega))
        | (refine execG_split (fun h => ?_) (fun h => ?_) <;> simp only [h])
        | (refine execC_split (fun h => ?_) (fun h => ?_) <;> (try simp only [h]))
        | (refine onPick_split (fun h => ?_) (fun h => ?_) <;> (try simp only [h])))
    all_goals exact ⟨i + 1, (weak_of _ rfl ⟨⟨rfl, rfl⟩, ⟨rfl, rfl⟩, ⟨rfl, rfl⟩, trivial⟩), by omega, by omega⟩
  · intro _ hd
    repeat' (first
        | (simp only [dl_len, hd, ↓wA, ↓wC, wB, frzBE, frzBS, Nat.reduceEqDiff, Nat.reduceAdd, Nat.reduceSub, reduceIte, reduceCtorEq, Nat.reduceBEq, Nat.reduceLT, decide_true, sz34, sz90])
        | (refine execG_split (fun h => ?_) (fun h => ?_) <;> simp only [h])
        | (refine execC_split (fun h => ?_) (fun h => ?_) <;> (try simp only [h]))
        | (refine onPick_split (fun h => ?_) (fun h => ?_) <;> (try simp only [h])))
theorem eqCase_refl (x : Cs) (hx : x.ok0) : Fn prog 125 [x.s, x.s] (fun rs => rs = [.bool true]) := by
  have h1 := eqIntS_refl x.h hx
  refine Fn_of' (fn := f125) (by exact func125) c125 r125 (n := 26) (by rfl) (rv := [.tmp 4]) (by rfl) (by simp) ?_
  unfold m125
  simp only [Cs.s, Cs.p]
  repeat' (first
      | (simp only [ints_noOwn, onC_true, decide_true, ↓wA, ↓wC, wB, frzBE, frzBS, Nat.reduceEqDiff, Nat.reduceAdd, Nat.reduceSub, reduceIte, reduceCtorEq, Nat.reduceBEq, Nat.reduceLT, decide_true, sz34, sz90])
      | (refine call_det h1 rfl rfl ?_)
      | (refine execG_split (fun h => ?_) (fun h => ?_) <;> simp only [h])
      | (refine execC_split (fun h => ?_) (fun h => ?_) <;> (try simp only [h]))
      | (refine onPick_split (fun h => ?_) (fun h => ?_) <;> (try simp only [h])))
theorem eqCaseS_refl (xs : List Cs) (hx : casesOk xs) : Fn prog 75 [.sl false 4 (dl Cs.s xs), .sl false 4 (dl Cs.s xs)] (fun rs => rs = [.bool true]) := by
  have hlen := hx.1
  refine Fn_of' (fn := f75) (by exact func75) c75 r75 (n := 27) (by rfl) (rv := [.tmp 4]) (by rfl) (by simp) ?_
  unfold m75
  repeat' (first
      | (simp only [dl_len, ↓wA, ↓wC, wB, frzBE, frzBS, Nat.reduceEqDiff, Nat.reduceAdd, Nat.reduceSub, reduceIte, reduceCtorEq, Nat.reduceBEq, Nat.reduceLT, decide_true, sz34, sz90])
      | (refine execG_split (fun h => ?_) (fun h => ?_) <;> simp only [h])
      | (refine execC_split (fun h => ?_) (fun h => ?_) <;> (try simp only [h]))
      | (refine onPick_split (fun h => ?_) (fun h => ?_) <;> (try simp only [h])))
  refine exec_range xs.length (fun i : Nat => ⟨[(0, .d (.sl false 4 (dl Cs.s xs))), (1, .d (.sl false 4 (dl Cs.s xs))), (5, .d (.int .i64 i))], []⟩) (fun _ => True) (weak_of _ rfl ⟨⟨rfl, rfl⟩, ⟨rfl, rfl⟩, ⟨rfl, rfl⟩, trivial⟩) trivial ?_ ?_
  · intro i hlt _ hd h0
    obtain ⟨r, hr⟩ := get_lt hlt
    have he := eqCase_refl r (hx.2 r (List.mem_of_getElem? hr))
    repeat' (first
        | (simp only [dl_len, dl_nth, hd, Int.toNat_natCast, hr, Option.map_some, ↓rd_cs, h0, onC_true, ↓wA, ↓wC, wB, frzBE, frzBS, Nat.reduceEqDiff, Nat.reduceAdd, Nat.reduceSub, reduceIte, reduceCtorEq, Nat.reduceBEq, Nat.reduceLT, decide_true, sz34, sz90])
        | (refine callP_det he (by simp [argsD, argD, valOf, Cs.s_unown]) rfl ?_)
        | (refine call_det he (by simp [argsD, argD, valOf, Cs.s_unown]) rfl ?_)
        | (with_reducible refine onI_bare ?_ ?_; focus (simp only [InR]; omega))
        | (refine execG_split (fun h => ?_) (fun h => ?_) <;> simp only [h])
        | (refine execC_split (fun h => ?_) (fun h => ?_) <;> (try simp only [h]))
        | (refine onPick_split (fun h => ?_) (fun h => ?_) <;> (try simp only [h])))
    all_goals exact ⟨i + 1, (weak_of _ rfl ⟨⟨rfl, rfl⟩, ⟨rfl, rfl⟩, ⟨rfl, rfl⟩, trivial⟩), by omega, by omega⟩
  · intro _ hd
    repeat' (first
        | (simp only [dl_len, hd, ↓wA, ↓wC, wB, frzBE, frzBS, Nat.reduceEqDiff, Nat.reduceAdd, Nat.reduceSub, reduceIte, reduceCtorEq, Nat.reduceBEq, Nat.reduceLT, decide_true, sz34, sz90])
        | (refine execG_split (fun h => ?_) (fun h => ?_) <;> simp only [h])
        | (refine execC_split (fun h => ?_) (fun h => ?_) <;> (try simp only [h]))
        | (refine onPick_split (fun h => ?_) (fun h => ?_) <;> (try simp only [h])))
theorem eqOffice_refl (o : Off) (ho : o.ok0) : Fn prog 21 [o.s, o.s] (fun rs => rs = [.bool true]) := by
  have h1 := eqCaseS_refl o.cs ho.1
  have h2 := eqStringS_refl o.led ho.2.1
  refine Fn_of' (fn := f21) (by exact func21) c21 r21 (n := 32) (by rfl) (rv := [.tmp 4]) (by rfl) (by simp) ?_
  unfold m21
  simp only [Off.s, offP]
  repeat' (first
      | (simp only [css_noOwn, strs_noOwn, onC_true, decide_true, ↓wA, ↓wC, wB, frzBE, frzBS, Nat.reduceEqDiff, Nat.reduceAdd, Nat.reduceSub, reduceIte, reduceCtorEq, Nat.reduceBEq, Nat.reduceLT, decide_true, sz34, sz90])
      | (refine call_det h1 rfl rfl ?_)
      | (refine call_det h2 rfl rfl ?_)
      | (refine execG_split (fun h => ?_) (fun h => ?_) <;> simp only [h])
      | (refine execC_split (fun h => ?_) (fun h => ?_) <;> (try simp only [h]))
      | (refine onPick_split (fun h => ?_) (fun h => ?_) <;> (try simp only [h])))
/-! copies -/
theorem toStringS_own (L : List (List UInt8)) (hlen : L.length ≤ 1048576) : Fn prog 71 [.sl false 1 (dl D.str L)] (fun rs => rs = [.sl true 1 (dl D.str L)]) := by
  refine Fn_of' (fn := f71) (by exact func71) c71 r71 (n := 22) (by rfl) (rv := [.tmp 2]) (by rfl) (by simp) ?_
  unfold m71
  simp only [↓wA, ↓wC, wB, frzBE, frzBS, Nat.reduceEqDiff, Nat.reduceAdd, Nat.reduceSub, reduceIte, reduceCtorEq, Nat.reduceBEq, Nat.reduceLT, decide_true, sz34, sz90]
  simp only [dl_len, ↓wA, ↓wC, wB, frzBE, frzBS, Nat.reduceEqDiff, Nat.reduceAdd, Nat.reduceSub, reduceIte, reduceCtorEq, Nat.reduceBEq, Nat.reduceLT, decide_true, sz34, sz90]
  refine onC_i (by omega) ?_
  have hz : ofL (List.replicate (↑L.length : Int).toNat (D.str [])) = dl D.str (L.take 0 ++ List.replicate (L.length - 0) []) := by
    rw [dl_replicate]; simp
  rw [hz]
  refine exec_range L.length (fun i : Nat => ⟨[(0, .d (.sl false 1 (dl D.str L))), (3, .own 0), (4, .d (.int .i64 i))], [.val (.sl true 1 (dl D.str (L.take i ++ List.replicate (L.length - i) [])))]⟩) (fun _ => True) (weak_of _ rfl ⟨⟨rfl, rfl⟩, ⟨rfl, rfl⟩, ⟨rfl, rfl⟩, trivial⟩) trivial ?_ ?_
  · intro i hlt _ hd h0
    obtain ⟨r, hr⟩ := get_lt hlt
    have hn : (L.take i ++ List.replicate (L.length - i) ([] : List UInt8))[i]? = some [] := by
      rw [List.getElem?_append_right (by simp; omega), List.length_take, Nat.min_eq_left (by omega), Nat.sub_self, show L.length - i = (L.length - (i + 1)) + 1 by omega]; rfl
    have hfs : (dl D.str (L.take i ++ List.replicate (L.length - i) ([] : List UInt8))).setN i (D.str r) = dl D.str (L.take (i + 1) ++ List.replicate (L.length - (i + 1)) []) := by
      rw [dl_setN, fill_step hr]
    repeat' (first
        | (simp only [dl_len, dl_nth, hd, h0, Int.toNat_natCast, hr, hn, hfs, Option.map_some, onC_true, ↓wA, ↓wC, wB, frzBE, frzBS, Nat.reduceEqDiff, Nat.reduceAdd, Nat.reduceSub, reduceIte, reduceCtorEq, Nat.reduceBEq, Nat.reduceLT, decide_true, sz34, sz90])
        | (with_reducible refine onI_bare ?_ ?_; focus (simp only [InR]; omega))
        | (refine execG_split (fun h => ?_) (fun h => ?_) <;> simp only [h])
        | (refine execC_split (fun h => ?_) (fun h => ?_) <;> (try simp only [h]))
        | (refine onPick_split (fun h => ?_) (fun h => ?_) <;> (try simp only [h])))
    all_goals exact ⟨i + 1, (weak_of _ rfl ⟨⟨rfl, rfl⟩, ⟨rfl, rfl⟩, ⟨rfl, rfl⟩, trivial⟩), by omega, by omega⟩
  · intro _ hd
    repeat' (first
        | (simp only [dl_len, hd, ↓wA, ↓wC, wB, frzBE, frzBS, Nat.reduceEqDiff, Nat.reduceAdd, Nat.reduceSub, reduceIte, reduceCtorEq, Nat.reduceBEq, Nat.reduceLT, decide_true, sz34, sz90])
        | (refine execG_split (fun h => ?_) (fun h => ?_) <;> simp only [h])
        | (refine execC_split (fun h => ?_) (fun h => ?_) <;> (try simp only [h]))
        | (refine onPick_split (fun h => ?_) (fun h => ?_) <;> (try simp only [h])))
    all_goals simp
theorem toCase_own (x : Cs) (hx : x.ok0) : Fn prog 118 [x.s] (fun rs => rs = [x.o]) := by
  have h1 := toIntS_own x.h hx
  refine Fn_ofg (ps := [[1, 1, 1, 1, 1, 1, 0], [1, 1, 1, 1, 1, 1, 1]]) (fn := f118) (by exact func118) c118 r118 (n := 18) (by rfl) (rv := [.cell 2 90]) (by rfl) (by simp) ?_
  unfold m118
  simp only [ghAll, ghAt]
  simp only [Cs.s, Cs.p]
  repeat' (first
      | (simp only [ints_noOwn, onC_true, ↓wA, ↓wC, wB, frzBE, frzBS, Nat.reduceEqDiff, Nat.reduceAdd, Nat.reduceSub, reduceIte, reduceCtorEq, Nat.reduceBEq, Nat.reduceLT, decide_true, sz34, sz90])
      | (refine call_det h1 rfl rfl ?_)
      | (refine execG_split (fun h => ?_) (fun h => ?_) <;> simp only [h])
      | (refine execC_split (fun h => ?_) (fun h => ?_) <;> (try simp only [h]))
      | (refine onPick_split (fun h => ?_) (fun h => ?_) <;> (try simp only [h])))
  refine exec_gh _ (unlink 2 none [3] (es := 1) (xs := dl iD x.h) rfl rfl) fun v1 => ?_
  simp only [obSet, ints_noOwn, onC_true, ↓wA, ↓wC, wB, frzBE, frzBS, Nat.reduceEqDiff, Nat.reduceAdd, Nat.reduceSub, reduceIte, reduceCtorEq, Nat.reduceBEq, Nat.reduceLT, decide_true, sz34, sz90]
  refine exec_gh1 (relink 1 5 4 none [3] rfl rfl rfl rfl (by decide) rfl) ?_
  simp only [obSet, ints_noOwn, onC_true, ↓wA, ↓wC, wB, frzBE, frzBS, Nat.reduceEqDiff, Nat.reduceAdd, Nat.reduceSub, reduceIte, reduceCtorEq, Nat.reduceBEq, Nat.reduceLT, decide_true, sz34, sz90]
  rfl
def zC : D := .st (.cons (.int .i64 0) (.cons (.int .i64 0) (.cons (.int .i64 0) (.cons (.sl true 1 .nil) .nil))))
def oz : Option Cs → D
  | some x => x.o
  | none => zC
theorem dl_someC : ∀ xs : List Cs, dl oz (xs.map some) = dl Cs.o xs
  | [] => rfl
  | x :: xs => by
    have := dl_someC xs
    simp only [dl, List.map_cons, ofL] at this ⊢
    rw [this]; rfl
theorem toCaseS_own (xs : List Cs) (hx : casesOk xs) : Fn prog 70 [.sl false 4 (dl Cs.s xs)] (fun rs => rs = [.sl true 4 (dl Cs.o xs)]) := by
  have hlen := hx.1
  refine Fn_of' (fn := f70) (by exact func70) c70 r70 (n := 23) (by rfl) (rv := [.tmp 2]) (by rfl) (by simp) ?_
  unfold m70
  simp only [↓wA, ↓wC, wB, frzBE, frzBS, Nat.reduceEqDiff, Nat.reduceAdd, Nat.reduceSub, reduceIte, reduceCtorEq, Nat.reduceBEq, Nat.reduceLT, decide_true, sz34, sz90]
  simp only [dl_len, ↓wA, ↓wC, wB, frzBE, frzBS, Nat.reduceEqDiff, Nat.reduceAdd, Nat.reduceSub, reduceIte, reduceCtorEq, Nat.reduceBEq, Nat.reduceLT, decide_true, sz34, sz90]
  refine onC_i (by omega) ?_
  have hz : ofL (List.replicate (↑xs.length : Int).toNat zC) = dl oz ((xs.map some).take 0 ++ List.replicate (xs.length - 0) none) := by
    rw [show zC = oz none from rfl, dl_replicate]; simp
  have hz' : D.st ((D.int IntKind.i64 0).cons ((D.int IntKind.i64 0).cons ((D.int IntKind.i64 0).cons ((D.sl true 1 .nil).cons D.nil)))) = zC := rfl
  rw [hz', hz]
  refine exec_range xs.length (fun i : Nat => ⟨[(0, .d (.sl false 4 (dl Cs.s xs))), (3, .own 0), (4, .d (.int .i64 i))], [.val (.sl true 4 (dl oz ((xs.map some).take i ++ List.replicate (xs.length - i) none)))]⟩) (fun _ => True) (weak_of _ rfl ⟨⟨rfl, rfl⟩, ⟨rfl, rfl⟩, ⟨rfl, rfl⟩, trivial⟩) trivial ?_ ?_
  · intro i hlt _ hd h0
    obtain ⟨r, hr⟩ := get_lt hlt
    have hto := toCase_own r (hx.2 r (List.mem_of_getElem? hr))
    have hrs : (xs.map some)[i]? = some (some r) := by rw [List.getElem?_map, hr]; rfl
    have hn : ((xs.map some).take i ++ List.replicate (xs.length - i) (none : Option Cs))[i]? = some none := by
      rw [List.getElem?_append_right (by simp; omega), List.length_take, List.length_map, Nat.min_eq_left (by omega), Nat.sub_self, show xs.length - i = (xs.length - (i + 1)) + 1 by omega]; rfl
    repeat' (first
        | (simp only [dl_len, dl_nth, hd, h0, Int.toNat_natCast, hr, hn, Option.map_some, onC_true, ↓rd_cs, Cs.o_isV, Cs.o_size, Cs.o_noOwn, Cs.s_noOwn, ↓wA, ↓wC, wB, frzBE, frzBS, Nat.reduceEqDiff, Nat.reduceAdd, Nat.reduceSub, reduceIte, reduceCtorEq, Nat.reduceBEq, Nat.reduceLT, decide_true, sz34, sz90])
        | (refine call_det hto (by simp [argsD, argD, valOf, Cs.s_unown]) rfl ?_)
        | (refine onI_bare (by simp only [InR]; omega) ?_)
        | (refine execG_split (fun h => ?_) (fun h => ?_) <;> simp only [h])
        | (refine execC_split (fun h => ?_) (fun h => ?_) <;> (try simp only [h]))
        | (refine onPick_split (fun h => ?_) (fun h => ?_) <;> (try simp only [h])))
    refine onC_i rfl ?_
    refine onI_bare (by simp only [InR]; omega) ?_
    have hfs : (dl oz ((xs.map some).take i ++ List.replicate (xs.length - i) none)).setN i r.o = dl oz ((xs.map some).take (i + 1) ++ List.replicate (xs.length - (i + 1)) none) := by
      have hl : xs.length = (xs.map (some : Cs → Option Cs)).length := by simp
      rw [show r.o = oz (some r) from rfl, dl_setN]
      conv => lhs; rw [hl]
      conv => rhs; rw [hl]
      rw [fill_step hrs]
    rw [hfs]
    exact ⟨i + 1, (weak_of _ rfl ⟨⟨rfl, rfl⟩, ⟨rfl, rfl⟩, ⟨rfl, rfl⟩, trivial⟩), by omega, by omega⟩
  · intro _ hd
    simp only [dl_len, hd, ↓wA, ↓wC, wB, frzBE, frzBS, Nat.reduceEqDiff, Nat.reduceAdd, Nat.reduceSub, reduceIte, reduceCtorEq, Nat.reduceBEq, Nat.reduceLT, decide_true, sz34, sz90]
    have h1 : (xs.map (some : Cs → Option Cs)).take xs.length = xs.map some := List.take_of_length_le (by simp)
    rw [h1, Nat.sub_self, List.replicate_zero, List.append_nil, dl_someC]
theorem toOffice_own (o : Off) (ho : o.ok0) : Fn prog 18 [o.s] (fun rs => rs = [o.o]) := by
  have h1 := toCaseS_own o.cs ho.1
  have h2 := toStringS_own o.led ho.2.1
  refine Fn_ofg (ps := [[1, 1, 1, 1, 1, 1, 1, 0], [1, 1, 1, 1, 1, 1, 1, 0], [1, 1, 1, 1, 1, 1, 1, 1], [1, 1, 1, 1, 1, 1, 1, 1]]) (fn := f18) (by exact func18) c18 r18 (n := 22) (by rfl) (rv := [.cell 2 34]) (by rfl) (by simp) ?_
  unfold m18
  simp only [ghAll, ghAt]
  simp only [Off.s, offP]
  repeat' (first
      | (simp only [css_noOwn, strs_noOwn, onC_true, ↓wA, ↓wC, wB, frzBE, frzBS, Nat.reduceEqDiff, Nat.reduceAdd, Nat.reduceSub, reduceIte, reduceCtorEq, Nat.reduceBEq, Nat.reduceLT, decide_true, sz34, sz90])
      | (refine call_det h1 rfl rfl ?_)
      | (refine call_det h2 rfl rfl ?_)
      | (refine execG_split (fun h => ?_) (fun h => ?_) <;> simp only [h])
      | (refine execC_split (fun h => ?_) (fun h => ?_) <;> (try simp only [h]))
      | (refine onPick_split (fun h => ?_) (fun h => ?_) <;> (try simp only [h])))
  refine exec_gh _ (unlink 2 none [1] (es := 4) (xs := dl Cs.o o.cs) rfl rfl) fun v1 => ?_
  simp only [obSet, css_noOwn, strs_noOwn, onC_true, ↓wA, ↓wC, wB, frzBE, frzBS, Nat.reduceEqDiff, Nat.reduceAdd, Nat.reduceSub, reduceIte, reduceCtorEq, Nat.reduceBEq, Nat.reduceLT, decide_true, sz34, sz90]
  refine exec_gh _ (unlink 2 none [4] (es := 1) (xs := dl D.str o.led) rfl rfl) fun v2 => ?_
  simp only [obSet, css_noOwn, strs_noOwn, onC_true, ↓wA, ↓wC, wB, frzBE, frzBS, Nat.reduceEqDiff, Nat.reduceAdd, Nat.reduceSub, reduceIte, reduceCtorEq, Nat.reduceBEq, Nat.reduceLT, decide_true, sz34, sz90]
  refine exec_gh1 (relink 1 6 5 none [1] rfl rfl rfl rfl (by decide) rfl) ?_
  simp only [obSet, css_noOwn, strs_noOwn, onC_true, ↓wA, ↓wC, wB, frzBE, frzBS, Nat.reduceEqDiff, Nat.reduceAdd, Nat.reduceSub, reduceIte, reduceCtorEq, Nat.reduceBEq, Nat.reduceLT, decide_true, sz34, sz90]
  refine exec_gh1 (relink 1 8 7 none [4] rfl rfl rfl rfl (by decide) rfl) ?_
  simp only [obSet, css_noOwn, strs_noOwn, onC_true, ↓wA, ↓wC, wB, frzBE, frzBS, Nat.reduceEqDiff, Nat.reduceAdd, Nat.reduceSub, reduceIte, reduceCtorEq, Nat.reduceBEq, Nat.reduceLT, decide_true, sz34, sz90]
  rfl
end Go.Pe.Tryz

set_option maxRecDepth 100000
set_option maxHeartbeats 4000000
set_option linter.all false
namespace Go.Pe.Tryz
open Go.Proofs.Tryz
/-- a set of bytes, as the library keeps it. -/
def setL (l : List UInt8) : List Bool := (List.range 256).map fun j => l.contains (UInt8.ofNat j)
def setD (l : List UInt8) : D := .st (dl D.bool (setL l))
theorem bools_rep {w : World} {M : Nat → Prop} : ∀ L : List Bool, (dl D.bool L).rep w M (L.map Value.bool) []
  | [] => ⟨rfl, rfl⟩
  | b :: L => ⟨[.bool b], _, [], [], rfl, rfl, ⟨rfl, rfl⟩, bools_rep L⟩
theorem setL_cells (l : List UInt8) : (Lib.setCells l).toList = (setL l).map Value.bool := by
  rw [Lib.setCells_eq]
  simp [setL, List.map_map, Function.comp_def]
theorem setL_at (l : List UInt8) (x : UInt8) : (setL l)[x.toNat]? = some (l.contains x) := by
  have h := x.toNat_lt
  simp only [setL, List.getElem?_map, List.getElem?_range h, Option.map_some, UInt8.ofNat_toNat]
theorem makeSet_fn (s : List UInt8) (h128 : ∀ b ∈ s, b.toNat < 128) (hl : s.length < 4000000000) : Fn prog 184 [.str s] (fun rs => rs = [setD s, .bool true]) := by
  intro M vs w hM hG hv
  obtain ⟨cs, us, f1, f2, rfl, e, ⟨rfl, _⟩, rfl, rfl⟩ := hv
  refine (Go.Proofs.Tryz.strings_makeASCIISet (fun w => by kernel_rfl) ⟨s.toArray⟩ w (by show s.toArray.size < _; simp; omega) ?_).mono ?_
  · intro j b hb
    exact h128 b (List.mem_of_getElem? (by simpa using hb))
  · rintro e w' ⟨rfl, rfl⟩
    refine ⟨[setD s, .bool true], [.agg (Lib.setCells s), .bool true], [], rfl, rfl, ⟨(Lib.setCells s).toList, [.bool true], [], [], rfl, rfl, ?_, ⟨[.bool true], [], [], [], rfl, rfl, ⟨rfl, rfl⟩, rfl, rfl⟩⟩, List.nodup_nil, (by simp), ext_alloc w _⟩
    rw [setL_cells]
    exact bools_rep _
theorem bools_pre : ∀ (L : List Bool) (n : Nat), n ≤ L.length → (dl D.bool L).pre n = n
  | _, 0, _ => by cases ‹List Bool› <;> rfl
  | [], n + 1, h => by simp at h
  | b :: L, n + 1, h => by
    have := bools_pre L n (by simpa using h)
    show 1 + (dl D.bool L).pre n = n + 1
    omega
theorem contains_fnS (l : List UInt8) (x : UInt8) : Fn prog 215 [.ptr (setD l), .int .u8 (x.toNat : Int)] (fun rs => rs = [.bool (l.contains x)]) := by
  have h256 := x.toNat_lt
  have hx := setL_at l x
  have hp := bools_pre (setL l) x.toNat (by simp [setL]; omega)
  have hp' : (dl D.bool (setL l)).pre x.toNat = x.toNat * 1 := by omega
  refine Fn_of' (fn := f215) (by exact func215) c215 r215 (n := 10) (by rfl) (rv := [.tmp 4]) (by rfl) (by simp) ?_
  unfold m215
  simp only [setD]
  repeat' (first
      | (simp only [onC_true, Int.toNat_natCast, hp', dl_nth, hx, Option.map_some, ↓wA, ↓wC, wB, frzBE, frzBS, Nat.reduceEqDiff, Nat.reduceAdd, Nat.reduceSub, reduceIte, reduceCtorEq, Nat.reduceBEq, Nat.reduceLT, decide_true])
      | (with_reducible refine onC_i ?_ ?_; focus omega)
      | (refine execG_split (fun h => ?_) (fun h => ?_) <;> simp only [h])
      | (refine execC_split (fun h => ?_) (fun h => ?_) <;> (try simp only [h]))
      | (refine onPick_split (fun h => ?_) (fun h => ?_) <;> (try simp only [h])))
def trimL (l s : List UInt8) : List UInt8 := s.dropWhile (fun b => l.contains b)
def trimR (l s : List UInt8) : List UInt8 := (s.reverse.dropWhile (fun b => l.contains b)).reverse
theorem trimL_fn (l s : List UInt8) (hl : s.length ≤ 1000000) : Fn prog 185 [.str s, .ptr (setD l)] (fun rs => rs = [.str (trimL l s)]) := by
  refine Fn_of' (fn := f185) (by exact func185) c185 r185 (n := 16) (by rfl) (rv := [.tmp 4]) (by rfl) (by simp) ?_
  unfold m185
  repeat' (first
      | (simp only [onC_true, ↓wA, ↓wC, wB, frzBE, frzBS, Nat.reduceEqDiff, Nat.reduceAdd, Nat.reduceSub, reduceIte, reduceCtorEq, Nat.reduceBEq, Nat.reduceLT, decide_true])
      | (refine execG_split (fun h => ?_) (fun h => ?_) <;> simp only [h])
      | (refine execC_split (fun h => ?_) (fun h => ?_) <;> (try simp only [h]))
      | (refine onPick_split (fun h => ?_) (fun h => ?_) <;> (try simp only [h])))
  refine exec_loop (fun t : List UInt8 => ⟨[(0, .d (.str t)), (1, .d (.ptr (setD l)))], []⟩) (fun t => trimL l t = trimL l s ∧ t.length ≤ 1000000) (fun t => t.length) s (weak_of _ rfl ⟨⟨rfl, rfl⟩, ⟨rfl, rfl⟩, trivial⟩) ⟨rfl, hl⟩ ?_
  rintro t ⟨h1, h2⟩
  cases t with
  | nil =>
    have hd : decide ((0 : Int) < ((0 : Nat) : Int)) = false := rfl
    repeat' (first
        | (simp only [onC_true, hd, ↓wA, ↓wC, wB, frzBE, frzBS, Nat.reduceEqDiff, Nat.reduceAdd, Nat.reduceSub, reduceIte, reduceCtorEq, Nat.reduceBEq, Nat.reduceLT, decide_true])
        | (refine execG_split (fun h => ?_) (fun h => ?_) <;> simp only [h])
        | (refine execC_split (fun h => ?_) (fun h => ?_) <;> (try simp only [h]))
        | (refine onPick_split (fun h => ?_) (fun h => ?_) <;> (try simp only [h])))
    all_goals (rw [← h1]; rfl)
  | cons b t =>
    have hd : decide ((0 : Int) < ((t.length + 1 : Nat) : Int)) = true := decide_eq_true (by omega)
    have hC := contains_fnS l b
    have h0 : (b :: t)[(0 : Int).toNat]? = some b := rfl
    have hdr : (b :: t).drop (1 : Int).toNat = t := rfl
    simp only [List.length_cons] at h2
    cases hb : l.contains b with
    | true =>
      rw [hb] at hC
      have e : trimL l (b :: t) = trimL l t := by unfold trimL; rw [List.dropWhile_cons, if_pos hb]
      repeat' (first
          | (simp only [onC_true, hd, h0, hdr, ↓wA, ↓wC, wB, frzBE, frzBS, Nat.reduceEqDiff, Nat.reduceAdd, Nat.reduceSub, reduceIte, reduceCtorEq, Nat.reduceBEq, Nat.reduceLT, decide_true])
          | (refine call_det (hC) rfl rfl ?_)
          | (refine callP_det (hC) rfl rfl ?_)
          | (with_reducible refine onC_i ?_ ?_; focus omega)
          | (with_reducible refine onC_i ?_ ?_; focus (simp; done))
          | (refine execG_split (fun h => ?_) (fun h => ?_) <;> simp only [h])
          | (refine execC_split (fun h => ?_) (fun h => ?_) <;> (try simp only [h]))
          | (refine onPick_split (fun h => ?_) (fun h => ?_) <;> (try simp only [h])))
      all_goals exact ⟨t, (weak_of _ rfl ⟨⟨rfl, rfl⟩, ⟨rfl, rfl⟩, trivial⟩), ⟨by rw [← e]; exact h1, by omega⟩, by simp⟩
    | false =>
      rw [hb] at hC
      have e : trimL l (b :: t) = b :: t := by unfold trimL; rw [List.dropWhile_cons, if_neg (by rw [hb]; decide)]
      repeat' (first
          | (simp only [onC_true, hd, h0, ↓wA, ↓wC, wB, frzBE, frzBS, Nat.reduceEqDiff, Nat.reduceAdd, Nat.reduceSub, reduceIte, reduceCtorEq, Nat.reduceBEq, Nat.reduceLT, decide_true])
          | (refine call_det (hC) rfl rfl ?_)
          | (refine callP_det (hC) rfl rfl ?_)
          | (with_reducible refine onC_i ?_ ?_; focus omega)
          | (refine execG_split (fun h => ?_) (fun h => ?_) <;> simp only [h])
          | (refine execC_split (fun h => ?_) (fun h => ?_) <;> (try simp only [h]))
          | (refine onPick_split (fun h => ?_) (fun h => ?_) <;> (try simp only [h])))
      all_goals (rw [← h1, e])
theorem trimR_snoc (l s : List UInt8) (b : UInt8) : trimR l (s ++ [b]) = if l.contains b = true then trimR l s else s ++ [b] := by
  unfold trimR
  rw [List.reverse_append, List.reverse_singleton, List.singleton_append, List.dropWhile_cons]
  split
  · rfl
  · simp
theorem trimR_fn (l s : List UInt8) (hl : s.length ≤ 1000000) : Fn prog 186 [.str s, .ptr (setD l)] (fun rs => rs = [.str (trimR l s)]) := by
  refine Fn_of' (fn := f186) (by exact func186) c186 r186 (n := 22) (by rfl) (rv := [.tmp 4]) (by rfl) (by simp) ?_
  unfold m186
  repeat' (first
      | (simp only [onC_true, ↓wA, ↓wC, wB, frzBE, frzBS, Nat.reduceEqDiff, Nat.reduceAdd, Nat.reduceSub, reduceIte, reduceCtorEq, Nat.reduceBEq, Nat.reduceLT, decide_true])
      | (refine execG_split (fun h => ?_) (fun h => ?_) <;> simp only [h])
      | (refine execC_split (fun h => ?_) (fun h => ?_) <;> (try simp only [h]))
      | (refine onPick_split (fun h => ?_) (fun h => ?_) <;> (try simp only [h])))
  refine exec_loop (fun t : List UInt8 => ⟨[(0, .d (.str t)), (1, .d (.ptr (setD l)))], []⟩) (fun t => trimR l t = trimR l s ∧ t.length ≤ 1000000) (fun t => t.length) s (weak_of _ rfl ⟨⟨rfl, rfl⟩, ⟨rfl, rfl⟩, trivial⟩) ⟨rfl, hl⟩ ?_
  rintro t ⟨h1, h2⟩
  rcases List.eq_nil_or_concat t with rfl | ⟨u, b, rfl⟩
  · have hd : decide ((0 : Int) < ((0 : Nat) : Int)) = false := rfl
    repeat' (first
        | (simp only [onC_true, hd, ↓wA, ↓wC, wB, frzBE, frzBS, Nat.reduceEqDiff, Nat.reduceAdd, Nat.reduceSub, reduceIte, reduceCtorEq, Nat.reduceBEq, Nat.reduceLT, decide_true])
        | (refine execG_split (fun h => ?_) (fun h => ?_) <;> simp only [h])
        | (refine execC_split (fun h => ?_) (fun h => ?_) <;> (try simp only [h]))
        | (refine onPick_split (fun h => ?_) (fun h => ?_) <;> (try simp only [h])))
    all_goals (rw [← h1]; rfl)
  · rw [List.concat_eq_append] at *
    have hlen : (u ++ [b]).length = u.length + 1 := by simp
    rw [hlen] at h2
    have hd : decide ((0 : Int) < ((u.length + 1 : Nat) : Int)) = true := decide_eq_true (by omega)
    have hC := contains_fnS l b
    have hn : (((u.length + 1 : Nat) : Int) - 1).toNat = u.length := by omega
    have h0 : (u ++ [b])[u.length]? = some b := by simp
    have htk : (u ++ [b]).take u.length = u := by simp
    have e := trimR_snoc l u b
    cases hb : l.contains b with
    | true =>
      rw [hb] at hC
      rw [if_pos hb] at e
      repeat' (first
          | (simp only [onC_true, hlen, hd, hn, h0, htk, ↓wA, ↓wC, wB, frzBE, frzBS, Nat.reduceEqDiff, Nat.reduceAdd, Nat.reduceSub, reduceIte, reduceCtorEq, Nat.reduceBEq, Nat.reduceLT, decide_true])
          | (refine call_det (hC) rfl rfl ?_)
          | (refine callP_det (hC) rfl rfl ?_)
          | (with_reducible refine onI_bare ?_ ?_; focus (simp only [InR]; omega))
          | (with_reducible refine onC_i ?_ ?_; focus omega)
          | (refine execG_split (fun h => ?_) (fun h => ?_) <;> simp only [h])
          | (refine execC_split (fun h => ?_) (fun h => ?_) <;> (try simp only [h]))
          | (refine onPick_split (fun h => ?_) (fun h => ?_) <;> (try simp only [h])))
      all_goals exact ⟨u, (weak_of _ rfl ⟨⟨rfl, rfl⟩, ⟨rfl, rfl⟩, trivial⟩), ⟨by rw [← e]; exact h1, by omega⟩, by simp⟩
    | false =>
      rw [hb] at hC
      rw [if_neg (by rw [hb]; decide)] at e
      repeat' (first
          | (simp only [onC_true, hlen, hd, hn, h0, ↓wA, ↓wC, wB, frzBE, frzBS, Nat.reduceEqDiff, Nat.reduceAdd, Nat.reduceSub, reduceIte, reduceCtorEq, Nat.reduceBEq, Nat.reduceLT, decide_true])
          | (refine call_det (hC) rfl rfl ?_)
          | (refine callP_det (hC) rfl rfl ?_)
          | (with_reducible refine onI_bare ?_ ?_; focus (simp only [InR]; omega))
          | (with_reducible refine onC_i ?_ ?_; focus omega)
          | (refine execG_split (fun h => ?_) (fun h => ?_) <;> simp only [h])
          | (refine execC_split (fun h => ?_) (fun h => ?_) <;> (try simp only [h]))
          | (refine onPick_split (fun h => ?_) (fun h => ?_) <;> (try simp only [h])))
      all_goals (rw [← h1, e])
/-- what may stand in an entry. -/
def cutSet : List UInt8 := [97, 98, 99, 100, 101, 102, 103, 104, 105, 106, 107, 108, 109, 110, 111, 112, 113, 114, 115, 116, 117, 118, 119, 120, 121, 122, 48, 49, 50, 51, 52, 53, 54, 55, 56, 57, 32, 45]
def eB (b : UInt8) : Bool := within (b.toNat : Int) 97 122 || within (b.toNat : Int) 48 57 || decide ((b.toNat : Int) = 32) || decide ((b.toNat : Int) = 45)
theorem cut_eB (b : UInt8) : cutSet.contains b = eB b := by
  have h : ∀ n, n < 256 → cutSet.contains (UInt8.ofNat n) = eB (UInt8.ofNat n) := by decide
  have := h b.toNat b.toNat_lt
  rwa [UInt8.ofNat_toNat] at this
theorem dropWhile_nil {p : UInt8 → Bool} : ∀ (s : List UInt8), s.dropWhile p = [] ↔ s.all p = true
  | [] => by simp
  | b :: s => by
    rw [List.dropWhile_cons]
    cases hb : p b with
    | true => simp [hb, dropWhile_nil s]
    | false => simp [hb]
theorem trim_nilN (l : List UInt8) : ∀ (n : Nat) (s : List UInt8), s.length = n → (trimL l (trimR l s) = [] ↔ s.all (fun b => l.contains b) = true) := by
  intro n
  induction n with
  | zero =>
    intro s hs
    obtain rfl := List.eq_nil_of_length_eq_zero hs
    simp [trimL, trimR]
  | succ n IH =>
  intro s hs
  unfold trimL
  rw [dropWhile_nil]
  rcases List.eq_nil_or_concat s with rfl | ⟨u, b, rfl⟩
  · simp [trimR]
  · rw [List.concat_eq_append, trimR_snoc]
    split
    · rename_i hb
      have ih := IH u (by simpa using hs)
      unfold trimL at ih
      rw [dropWhile_nil] at ih
      rw [ih, List.all_append]
      simp only [List.all_cons, List.all_nil, hb, Bool.and_true]
    · rfl
theorem trim_nil (l s : List UInt8) : trimL l (trimR l s) = [] ↔ s.all (fun b => l.contains b) = true := trim_nilN l _ s rfl
def entryOK (s : List UInt8) : Bool := within s.length 1 40 && s.all eB
def zSet : D := .st (ofL (List.replicate 256 (D.bool false)))
theorem setD_noOwn (l : List UInt8) : (setD l).noOwn = true := dl_noOwn (f := D.bool) (fun _ => rfl) (setL l)
theorem setD_unown (l : List UInt8) : (setD l).unown = setD l := by
  show D.st (dl D.bool (setL l)).unown = _
  rw [dl_unown (fun _ => rfl)]; rfl
theorem bools_size : ∀ L : List Bool, (dl D.bool L).size = L.length
  | [] => rfl
  | b :: L => by
    have := bools_size L
    show 1 + (dl D.bool L).size = L.length + 1
    omega
theorem setD_size (l : List UInt8) : (setD l).size = 256 := by
  show (dl D.bool (setL l)).size = 256
  rw [bools_size]; simp [setL]
theorem trim_fn (s : List UInt8) (h0 : 0 < s.length) (hl : s.length ≤ 1000) : Fn prog 161 [.str s, .str cutSet] (fun rs => rs = [.str (trimL cutSet (trimR cutSet s))]) := by
  have hM := makeSet_fn cutSet (by decide) (by decide)
  have hR := trimR_fn cutSet s (by omega)
  have hrl : (trimR cutSet s).length ≤ s.length := by
    unfold trimR
    have := (List.dropWhile_sublist (p := fun b => cutSet.contains b) (l := s.reverse)).length_le
    simpa using this
  have hL := trimL_fn cutSet (trimR cutSet s) (by omega)
  have d1 : decide (s = []) = false := decide_eq_false (fun h => by rw [h] at h0; simp at h0)
  have d2 : decide (cutSet = []) = false := rfl
  have d3 : decide ((cutSet.length : Int) = 1) = false := rfl
  have n1 : (setD cutSet).noOwn = true := setD_noOwn _
  have n2 : (setD cutSet).isV = true := rfl
  have n3 := setD_size cutSet
  have n4 : (setD cutSet).unown = setD cutSet := setD_unown _
  have hz : D.st (ofL (List.replicate 256 (D.bool false))) = zSet := rfl
  have n5 : zSet.size = 256 := rfl
  refine Fn_ofg (ps := [[1, 1, 1, 0, 1, 1, 0, 0]]) (fn := f161) (by exact func161) c161 r161 (n := 43) (by rfl) (rv := [.tmp 4]) (by rfl) (by simp) ?_
  unfold m161
  simp only [ghAll, ghAt]
  rw [hz]
  generalize zSet = Z at n5
  repeat' (first
      | (simp only [onC_true, d1, d2, d3, n1, n2, n3, n5, ↓wA, ↓wC, wB, frzBE, frzBS, Nat.reduceEqDiff, Nat.reduceAdd, Nat.reduceSub, reduceIte, reduceCtorEq, Nat.reduceBEq, Nat.reduceLT, decide_true])
      | (refine call_det (hM) rfl rfl ?_)
      | (refine callP_det (hM) rfl rfl ?_)
      | (refine execG_split (fun h => ?_) (fun h => ?_) <;> simp only [h])
      | (refine execC_split (fun h => ?_) (fun h => ?_) <;> (try simp only [h]))
      | (refine onPick_split (fun h => ?_) (fun h => ?_) <;> (try simp only [h])))
  refine exec_gh1 (frzB 0 rfl) ?_
  repeat' (first
      | (simp only [onC_true, n4, ↓wA, ↓wC, wB, frzBE, frzBS, Nat.reduceEqDiff, Nat.reduceAdd, Nat.reduceSub, reduceIte, reduceCtorEq, Nat.reduceBEq, Nat.reduceLT, decide_true])
      | (refine call_det (hR) rfl rfl ?_)
      | (refine callP_det (hR) rfl rfl ?_)
      | (refine call_det (hL) rfl rfl ?_)
      | (refine callP_det (hL) rfl rfl ?_)
      | (refine execG_split (fun h => ?_) (fun h => ?_) <;> simp only [h])
      | (refine execC_split (fun h => ?_) (fun h => ?_) <;> (try simp only [h]))
      | (refine onPick_split (fun h => ?_) (fun h => ?_) <;> (try simp only [h])))
  all_goals trace_state
end Go.Pe.Tryz

set_option maxRecDepth 100000
set_option maxHeartbeats 4000000
set_option linter.all false
namespace Go.Pe.Tryz
open Go.Proofs.Tryz
theorem within_len (n : Nat) : within (n : Int) 1 40 = true → 0 < n ∧ n ≤ 40 := by
  intro h
  simp only [within, Bool.and_eq_true, decide_eq_true_eq] at h
  omega
theorem isEntry_fn (s : List UInt8) : Fn prog 132 [.str s] (fun rs => rs = [.bool (entryOK s)]) := by
  unfold entryOK
  cases hw : within (s.length : Int) 1 40 with
  | false =>
    have hW := within_fn (s.length : Int) 1 40
    rw [hw] at hW
    refine Fn_of' (fn := f132) (by exact func132) c132 r132 (n := 11) (by rfl) (rv := [.tmp 2]) (by rfl) (by simp) ?_
    unfold m132
    repeat' (first
        | (simp only [↓wA, ↓wC, wB, frzBE, frzBS, Nat.reduceEqDiff, Nat.reduceAdd, Nat.reduceSub, reduceIte, reduceCtorEq, Nat.reduceBEq, Nat.reduceLT, decide_true])
        | (refine call_det (hW) rfl rfl ?_)
        | (refine callP_det (hW) rfl rfl ?_)
        | (refine execG_split (fun h => ?_) (fun h => ?_) <;> simp only [h])
        | (refine execC_split (fun h => ?_) (fun h => ?_) <;> (try simp only [h]))
        | (refine onPick_split (fun h => ?_) (fun h => ?_) <;> (try simp only [h])))
    all_goals rfl
  | true =>
    have hW := within_fn (s.length : Int) 1 40
    rw [hw] at hW
    have hl := within_len _ hw
    have hT := trim_fn s hl.1 (by omega)
    have he : decide (trimL cutSet (trimR cutSet s) = []) = s.all eB := by
      have h1 := trim_nil cutSet s
      have h2 : (s.all fun b => cutSet.contains b) = s.all eB := by
        congr 1
        funext b
        exact cut_eB b
      rw [h2] at h1
      cases hb : s.all eB with
      | true => exact decide_eq_true (h1.2 hb)
      | false => exact decide_eq_false (fun h => by rw [h1.1 h] at hb; cases hb)
    simp only [cutSet] at hT he
    refine Fn_of' (fn := f132) (by exact func132) c132 r132 (n := 11) (by rfl) (rv := [.tmp 2]) (by rfl) (by simp) ?_
    unfold m132
    repeat' (first
        | (simp only [↓wA, ↓wC, wB, frzBE, frzBS, Nat.reduceEqDiff, Nat.reduceAdd, Nat.reduceSub, reduceIte, reduceCtorEq, Nat.reduceBEq, Nat.reduceLT, decide_true])
        | (refine call_det (hW) rfl rfl ?_)
        | (refine callP_det (hW) rfl rfl ?_)
        | (refine call_det (hT) rfl rfl ?_)
        | (refine callP_det (hT) rfl rfl ?_)
        | (refine execG_split (fun h => ?_) (fun h => ?_) <;> simp only [h])
        | (refine execC_split (fun h => ?_) (fun h => ?_) <;> (try simp only [h]))
        | (refine onPick_split (fun h => ?_) (fun h => ?_) <;> (try simp only [h])))
    all_goals exact congrArg (fun b => [D.bool b]) he
theorem l15Letter_fn (b : UInt8) : Fn prog 177 [.int .u8 (b.toNat : Int)] (fun rs => rs = [.bool (within (b.toNat : Int) 97 122)]) := by
  refine Fn_of' (fn := f177) (by exact func177) c177 r177 (n := 9) (by rfl) (rv := [.tmp 2]) (by rfl) (by simp) ?_
  unfold m177
  repeat' (first
      | (simp only [↓wA, ↓wC, wB, frzBE, frzBS, Nat.reduceEqDiff, Nat.reduceAdd, Nat.reduceSub, reduceIte, reduceCtorEq, Nat.reduceBEq, Nat.reduceLT, decide_true])
      | (refine execG_split (fun h => ?_) (fun h => ?_) <;> simp only [h])
      | (refine execC_split (fun h => ?_) (fun h => ?_) <;> (try simp only [h]))
      | (refine onPick_split (fun h => ?_) (fun h => ?_) <;> (try simp only [h])))
  all_goals first | (simp_all [within]; done) | (simp_all [within]; intros; omega)
theorem l16Entry_fn (s : List UInt8) (hl : s.length ≤ 1048576) : Fn prog 151 [.str s] (fun rs => rs = [.bool (entryOK s)]) := by
  have hW := l1In_fn (s.length : Int) 1 40
  unfold entryOK
  refine Fn_of' (fn := f151) (by exact func151) c151 r151 (n := 37) (by rfl) (rv := [.tmp 2]) (by rfl) (by simp) ?_
  unfold m151
  repeat' (first
      | (simp only [onC_true, ↓wA, ↓wC, wB, frzBE, frzBS, Nat.reduceEqDiff, Nat.reduceAdd, Nat.reduceSub, reduceIte, reduceCtorEq, Nat.reduceBEq, Nat.reduceLT, decide_true])
      | (refine execG_split (fun h => ?_) (fun h => ?_) <;> simp only [h])
      | (refine execC_split (fun h => ?_) (fun h => ?_) <;> (try simp only [h]))
      | (refine onPick_split (fun h => ?_) (fun h => ?_) <;> (try simp only [h])))
  refine exec_range s.length (fun i : Nat => ⟨[(0, .d (.str s)), (3, .d (.int .i64 i))], []⟩) (fun i => ∀ j b, j < i → s[j]? = some b → eB b = true) (weak_of _ rfl ⟨⟨rfl, rfl⟩, ⟨rfl, rfl⟩, trivial⟩) (fun j r hj => by omega) ?_ ?_
  · intro i hlt hinv hd h0
    obtain ⟨b, hb⟩ := get_lt hlt
    have hL := l15Letter_fn b
    have hbad : eB b = false → (within (s.length : Int) 1 40 && s.all eB) = false := by
      intro h
      have : s.all eB = false := List.all_eq_false.2 ⟨b, List.mem_of_getElem? hb, by rw [h]; simp⟩
      rw [this, Bool.and_false]
    have hgood : eB b = true → ∀ j c, j < i + 1 → s[j]? = some c → eB c = true := by
      intro h j c hj hc
      by_cases e : j = i
      · subst e; rw [hb] at hc; injection hc with hc; rw [← hc]; exact h
      · exact hinv j c (by omega) hc
    cases hlt1 : within (b.toNat : Int) 97 122 with
    | true =>
      rw [hlt1] at hL
      have hg := hgood (by unfold eB; rw [hlt1]; rfl)
      repeat' (first
          | (simp only [onC_true, hd, h0, hb, Int.toNat_natCast, ↓wA, ↓wC, wB, frzBE, frzBS, Nat.reduceEqDiff, Nat.reduceAdd, Nat.reduceSub, reduceIte, reduceCtorEq, Nat.reduceBEq, Nat.reduceLT, decide_true])
          | (refine call_det (hL) rfl rfl ?_)
          | (refine callP_det (hL) rfl rfl ?_)
          | (with_reducible refine onI_bare ?_ ?_; focus (simp only [InR]; omega))
          | (refine execG_split (fun h => ?_) (fun h => ?_) <;> simp only [h])
          | (refine execC_split (fun h => ?_) (fun h => ?_) <;> (try simp only [h]))
          | (refine onPick_split (fun h => ?_) (fun h => ?_) <;> (try simp only [h])))
      all_goals exact next_range (weak_of _ rfl ⟨⟨rfl, rfl⟩, ⟨rfl, rfl⟩, trivial⟩) hlt hg
    | false =>
      rw [hlt1] at hL
      repeat' (first
          | (simp only [onC_true, hd, h0, hb, Int.toNat_natCast, ↓wA, ↓wC, wB, frzBE, frzBS, Nat.reduceEqDiff, Nat.reduceAdd, Nat.reduceSub, reduceIte, reduceCtorEq, Nat.reduceBEq, Nat.reduceLT, decide_true])
          | (refine call_det (hL) rfl rfl ?_)
          | (refine callP_det (hL) rfl rfl ?_)
          | (with_reducible refine onI_bare ?_ ?_; focus (simp only [InR]; omega))
          | (refine execG_split (fun h => ?_) (fun h => ?_) <;> simp only [h])
          | (refine execC_split (fun h => ?_) (fun h => ?_) <;> (try simp only [h]))
          | (refine onPick_split (fun h => ?_) (fun h => ?_) <;> (try simp only [h])))
      all_goals first
        | (refine next_range (weak_of _ rfl ⟨⟨rfl, rfl⟩, ⟨rfl, rfl⟩, trivial⟩) hlt (hgood ?_); focus (clear hL hW hgood hbad; simp_all [eB, within]; done))
        | (refine (congrArg (fun x => [D.bool x]) (hbad ?_)).symm; focus (clear hL hW hgood hbad; simp_all [eB, within]; done))
        | (refine (congrArg (fun x => [D.bool x]) (hbad ?_)).symm; focus (clear hL hW hgood hbad hinv; simp_all [eB, within]; intros; omega))
        | (refine (congrArg (fun x => [D.bool x]) (hbad ?_)).symm; focus (clear hL hW hgood hbad hinv; simp_all [eB, within]; omega))
        | trace_state
  · intro hinv hd
    have : s.all eB = true := List.all_eq_true.2 fun b hb => by
      obtain ⟨j, hj⟩ := List.getElem?_of_mem hb
      exact hinv j b (lt_of_get hj) hj
    rw [this, Bool.and_true]
    repeat' (first
        | (simp only [onC_true, hd, ↓wA, ↓wC, wB, frzBE, frzBS, Nat.reduceEqDiff, Nat.reduceAdd, Nat.reduceSub, reduceIte, reduceCtorEq, Nat.reduceBEq, Nat.reduceLT, decide_true])
        | (refine call_det (hW) rfl rfl ?_)
        | (refine callP_det (hW) rfl rfl ?_)
        | (refine execG_split (fun h => ?_) (fun h => ?_) <;> simp only [h])
        | (refine execC_split (fun h => ?_) (fun h => ?_) <;> (try simp only [h]))
        | (refine onPick_split (fun h => ?_) (fun h => ?_) <;> (try simp only [h])))
def ledgerOK (L : List (List UInt8)) : Bool := within L.length 1 8 && L.all entryOK
theorem cloEntry_fn (s : List UInt8) : Fn prog 131 [.str s] (fun rs => rs = [.bool (!entryOK s)]) := by
  refine Fn_of' (fn := f131) (by exact func131) c131 r131 (n := 6) (by rfl) (rv := [.tmp 2]) (by rfl) (by simp) ?_
  unfold m131
  repeat' (first
      | (simp only [↓wA, ↓wC, wB, frzBE, frzBS, Nat.reduceEqDiff, Nat.reduceAdd, Nat.reduceSub, reduceIte, reduceCtorEq, Nat.reduceBEq, Nat.reduceLT, decide_true])
      | (refine call_det (isEntry_fn s) rfl rfl ?_)
      | (refine callP_det (isEntry_fn s) rfl rfl ?_)
      | (refine execG_split (fun h => ?_) (fun h => ?_) <;> simp only [h])
      | (refine execC_split (fun h => ?_) (fun h => ?_) <;> (try simp only [h]))
      | (refine onPick_split (fun h => ?_) (fun h => ?_) <;> (try simp only [h])))
/-- indexFuncT: the first element of which a test holds. -/
theorem indexFuncT_fn (p : (List UInt8) → Bool) (g : Nat) (c : D) (xs : List (List UInt8)) (hc : c.caps = true) (he : enterOK prog.P g = true) (hlen : xs.length ≤ 1048576) (hp : ∀ x ∈ xs, Fn prog g (D.str x :: c.list) (fun rs => rs = [.bool (p x)])) :
    Fn prog 160 [.sl false 1 (dl D.str xs), .clo g c] (fun rs => rs = [.int .i64 (idxOf p xs)]) := by
  refine Fn_of' (fn := f160) (by exact func160) c160 r160 (n := 19) (by rfl) (rv := [.tmp 4]) (by rfl) (by simp) ?_
  unfold m160
  simp only [dl_len, ↓wA, ↓wC, wB, frzBE, frzBS, Nat.reduceEqDiff, Nat.reduceAdd, Nat.reduceSub, reduceIte, reduceCtorEq, Nat.reduceBEq, Nat.reduceLT, decide_true]
  refine exec_range xs.length (fun i : Nat => ⟨[(0, .d (.sl false 1 (dl D.str xs))), (1, .d (.clo g c)), (7, .d (.int .i64 xs.length)), (8, .d (.int .i64 i))], []⟩) (fun i => ∀ j r, j < i → xs[j]? = some r → p r = false) (weak_of _ rfl ⟨⟨rfl, rfl⟩, ⟨rfl, rfl⟩, ⟨rfl, rfl⟩, ⟨rfl, rfl⟩, trivial⟩) (fun j r hj => by omega) ?_ ?_
  · intro i hlt hinv hd h0
    obtain ⟨r, hr⟩ := get_lt hlt
    have hcl := hp r (List.mem_of_getElem? hr)
    simp only [hd, h0, dl_nth, Int.toNat_natCast, hr, Option.map_some, onC_true, ↓rd_str, ↓wA, ↓wC, wB, frzBE, frzBS, Nat.reduceEqDiff, Nat.reduceAdd, Nat.reduceSub, reduceIte, reduceCtorEq, Nat.reduceBEq, Nat.reduceLT, decide_true]
    refine callW_det (ds := [D.str r]) hcl he hc (by simp [argsD, argD, valOf, D.str]) rfl ?_
    cases hpr : p r with
    | true =>
      simp only [↓wA, ↓wC, wB, frzBE, frzBS, Nat.reduceEqDiff, Nat.reduceAdd, Nat.reduceSub, reduceIte, reduceCtorEq, Nat.reduceBEq, Nat.reduceLT, decide_true]
      rw [idxOf_hit hr hpr hinv]
    | false =>
      simp only [↓wA, ↓wC, wB, frzBE, frzBS, Nat.reduceEqDiff, Nat.reduceAdd, Nat.reduceSub, reduceIte, reduceCtorEq, Nat.reduceBEq, Nat.reduceLT, decide_true]
      refine onI_bare (by simp only [InR]; omega) ?_
      refine next_range (weak_of _ rfl ⟨⟨rfl, rfl⟩, ⟨rfl, rfl⟩, ⟨rfl, rfl⟩, ⟨rfl, rfl⟩, trivial⟩) hlt fun j s hj hs => ?_
      by_cases e : j = i
      · subst e; rw [hr] at hs; injection hs with hs; rw [← hs]; exact hpr
      · exact hinv j s (by omega) hs
  · intro hinv hd
    simp only [hd, ↓wA, ↓wC, wB, frzBE, frzBS, Nat.reduceEqDiff, Nat.reduceAdd, Nat.reduceSub, reduceIte, reduceCtorEq, Nat.reduceBEq, Nat.reduceLT, decide_true]
    rw [idxOf_none fun j r hj => hinv j r (lt_of_get hj) hj]
/-- containsFuncT: is there an element of which a test holds? -/
theorem containsFuncT_fn (p : (List UInt8) → Bool) (g : Nat) (c : D) (xs : List (List UInt8)) (hc : c.caps = true) (he : enterOK prog.P g = true) (hlen : xs.length ≤ 1048576) (hp : ∀ x ∈ xs, Fn prog g (D.str x :: c.list) (fun rs => rs = [.bool (p x)])) :
    Fn prog 130 [.sl false 1 (dl D.str xs), .clo g c] (fun rs => rs = [.bool (xs.any p)]) := by
  refine Fn_of' (fn := f130) (by exact func130) c130 r130 (n := 9) (by rfl) (rv := [.tmp 4]) (by rfl) (by simp) ?_
  unfold m130
  simp only [↓wA, ↓wC, wB, frzBE, frzBS, Nat.reduceEqDiff, Nat.reduceAdd, Nat.reduceSub, reduceIte, reduceCtorEq, Nat.reduceBEq, Nat.reduceLT, decide_true]
  refine call_det (indexFuncT_fn p g c xs hc he hlen hp) rfl rfl ?_
  simp only [idxOf_any, ↓wA, ↓wC, wB, frzBE, frzBS, Nat.reduceEqDiff, Nat.reduceAdd, Nat.reduceSub, reduceIte, reduceCtorEq, Nat.reduceBEq, Nat.reduceLT, decide_true]
theorem isLedger_fn (L : List (List UInt8)) (hl : L.length ≤ 1048576) : Fn prog 87 [.sl false 1 (dl D.str L)] (fun rs => rs = [.bool (ledgerOK L)]) := by
  have hW := within_fn (L.length : Int) 1 8
  have hC := containsFuncT_fn (fun s => !entryOK s) 131 .nil L rfl en131 hl (fun s _ => cloEntry_fn s)
  rw [any_not] at hC
  unfold ledgerOK
  cases hw : within (L.length : Int) 1 8 with
  | false =>
    rw [hw] at hW
    refine Fn_of' (fn := f87) (by exact func87) c87 r87 (n := 11) (by rfl) (rv := [.tmp 2]) (by rfl) (by simp) ?_
    unfold m87
    repeat' (first
        | (simp only [dl_len, ↓wA, ↓wC, wB, frzBE, frzBS, Nat.reduceEqDiff, Nat.reduceAdd, Nat.reduceSub, reduceIte, reduceCtorEq, Nat.reduceBEq, Nat.reduceLT, decide_true])
        | (refine call_det (hW) rfl rfl ?_)
        | (refine callP_det (hW) rfl rfl ?_)
        | (refine execG_split (fun h => ?_) (fun h => ?_) <;> simp only [h])
        | (refine execC_split (fun h => ?_) (fun h => ?_) <;> (try simp only [h]))
        | (refine onPick_split (fun h => ?_) (fun h => ?_) <;> (try simp only [h])))
    all_goals rfl
  | true =>
    rw [hw] at hW
    refine Fn_of' (fn := f87) (by exact func87) c87 r87 (n := 11) (by rfl) (rv := [.tmp 2]) (by rfl) (by simp) ?_
    unfold m87
    repeat' (first
        | (simp only [dl_len, ↓wA, ↓wC, wB, frzBE, frzBS, Nat.reduceEqDiff, Nat.reduceAdd, Nat.reduceSub, reduceIte, reduceCtorEq, Nat.reduceBEq, Nat.reduceLT, decide_true])
        | (refine call_det (hW) rfl rfl ?_)
        | (refine callP_det (hW) rfl rfl ?_)
        | (refine call_det (hC) rfl rfl ?_)
        | (refine callP_det (hC) rfl rfl ?_)
        | (refine execG_split (fun h => ?_) (fun h => ?_) <;> simp only [h])
        | (refine execC_split (fun h => ?_) (fun h => ?_) <;> (try simp only [h]))
        | (refine onPick_split (fun h => ?_) (fun h => ?_) <;> (try simp only [h])))
    all_goals simp
theorem l16Good_fn (L : List (List UInt8)) (hl : L.length ≤ 1048576) (hx : ∀ s ∈ L, s.length ≤ 1048576) : Fn prog 112 [.sl false 1 (dl D.str L)] (fun rs => rs = [.bool (ledgerOK L)]) := by
  have hW := l1In_fn (L.length : Int) 1 8
  unfold ledgerOK
  refine Fn_of' (fn := f112) (by exact func112) c112 r112 (n := 19) (by rfl) (rv := [.tmp 2]) (by rfl) (by simp) ?_
  unfold m112
  repeat' (first
      | (simp only [onC_true, ↓wA, ↓wC, wB, frzBE, frzBS, Nat.reduceEqDiff, Nat.reduceAdd, Nat.reduceSub, reduceIte, reduceCtorEq, Nat.reduceBEq, Nat.reduceLT, decide_true])
      | (refine execG_split (fun h => ?_) (fun h => ?_) <;> simp only [h])
      | (refine execC_split (fun h => ?_) (fun h => ?_) <;> (try simp only [h]))
      | (refine onPick_split (fun h => ?_) (fun h => ?_) <;> (try simp only [h])))
  refine exec_range L.length (fun i : Nat => ⟨[(0, .d (.sl false 1 (dl D.str L))), (3, .d (.int .i64 i))], []⟩) (fun i => ∀ j b, j < i → L[j]? = some b → entryOK b = true) (weak_of _ rfl ⟨⟨rfl, rfl⟩, ⟨rfl, rfl⟩, trivial⟩) (fun j r hj => by omega) ?_ ?_
  · intro i hlt hinv hd h0
    obtain ⟨b, hb⟩ := get_lt hlt
    have hE := l16Entry_fn b (hx b (List.mem_of_getElem? hb))
    cases hbo : entryOK b with
    | false =>
      rw [hbo] at hE
      have : L.all entryOK = false := List.all_eq_false.2 ⟨b, List.mem_of_getElem? hb, by rw [hbo]; simp⟩
      rw [this, Bool.and_false]
      repeat' (first
          | (simp only [onC_true, dl_len, dl_nth, hd, h0, hb, Int.toNat_natCast, Option.map_some, ↓wA, ↓wC, wB, frzBE, frzBS, Nat.reduceEqDiff, Nat.reduceAdd, Nat.reduceSub, reduceIte, reduceCtorEq, Nat.reduceBEq, Nat.reduceLT, decide_true])
          | (refine call_det (hE) rfl rfl ?_)
          | (refine callP_det (hE) rfl rfl ?_)
          | (with_reducible refine onI_bare ?_ ?_; focus (simp only [InR]; omega))
          | (refine execG_split (fun h => ?_) (fun h => ?_) <;> simp only [h])
          | (refine execC_split (fun h => ?_) (fun h => ?_) <;> (try simp only [h]))
          | (refine onPick_split (fun h => ?_) (fun h => ?_) <;> (try simp only [h])))
    | true =>
      rw [hbo] at hE
      repeat' (first
          | (simp only [onC_true, dl_len, dl_nth, hd, h0, hb, Int.toNat_natCast, Option.map_some, ↓wA, ↓wC, wB, frzBE, frzBS, Nat.reduceEqDiff, Nat.reduceAdd, Nat.reduceSub, reduceIte, reduceCtorEq, Nat.reduceBEq, Nat.reduceLT, decide_true])
          | (refine call_det (hE) rfl rfl ?_)
          | (refine callP_det (hE) rfl rfl ?_)
          | (with_reducible refine onI_bare ?_ ?_; focus (simp only [InR]; omega))
          | (refine execG_split (fun h => ?_) (fun h => ?_) <;> simp only [h])
          | (refine execC_split (fun h => ?_) (fun h => ?_) <;> (try simp only [h]))
          | (refine onPick_split (fun h => ?_) (fun h => ?_) <;> (try simp only [h])))
      refine next_range (weak_of _ rfl ⟨⟨rfl, rfl⟩, ⟨rfl, rfl⟩, trivial⟩) hlt fun j c hj hc => ?_
      by_cases e : j = i
      · subst e; rw [hb] at hc; injection hc with hc; rw [← hc]; exact hbo
      · exact hinv j c (by omega) hc
  · intro hinv hd
    have : L.all entryOK = true := List.all_eq_true.2 fun b hb => by
      obtain ⟨j, hj⟩ := List.getElem?_of_mem hb
      exact hinv j b (lt_of_get hj) hj
    rw [this, Bool.and_true]
    repeat' (first
        | (simp only [onC_true, dl_len, hd, ↓wA, ↓wC, wB, frzBE, frzBS, Nat.reduceEqDiff, Nat.reduceAdd, Nat.reduceSub, reduceIte, reduceCtorEq, Nat.reduceBEq, Nat.reduceLT, decide_true])
        | (refine call_det (hW) rfl rfl ?_)
        | (refine callP_det (hW) rfl rfl ?_)
        | (refine execG_split (fun h => ?_) (fun h => ?_) <;> simp only [h])
        | (refine execC_split (fun h => ?_) (fun h => ?_) <;> (try simp only [h]))
        | (refine onPick_split (fun h => ?_) (fun h => ?_) <;> (try simp only [h])))
/-- is a case valid? -/
def caseOK (x : Cs) : Bool := within x.i 1 999 && within x.a 1 3 && within x.d 0 20000 && decide ((x.h.length : Int) ≤ 5) && (x.h.all (fun n => within n 1 9) && rises x.h)
theorem isRecordId_fn (n : Int) : Fn prog 133 [.int .i64 n] (fun rs => rs = [.bool (within n 1 999)]) := by
  refine Fn_of' (fn := f133) (by exact func133) c133 r133 (n := 5) (by rfl) (rv := [.tmp 2]) (by rfl) (by simp) ?_
  unfold m133
  repeat' (first
      | (simp only [↓wA, ↓wC, wB, frzBE, frzBS, Nat.reduceEqDiff, Nat.reduceAdd, Nat.reduceSub, reduceIte, reduceCtorEq, Nat.reduceBEq, Nat.reduceLT, decide_true])
      | (refine call_det (within_fn _ _ _) rfl rfl ?_)
      | (refine callP_det (within_fn _ _ _) rfl rfl ?_)
      | (refine execG_split (fun h => ?_) (fun h => ?_) <;> simp only [h])
      | (refine execC_split (fun h => ?_) (fun h => ?_) <;> (try simp only [h]))
      | (refine onPick_split (fun h => ?_) (fun h => ?_) <;> (try simp only [h])))
theorem isAct_fn (n : Int) : Fn prog 134 [.int .i64 n] (fun rs => rs = [.bool (within n 1 3)]) := by
  refine Fn_of' (fn := f134) (by exact func134) c134 r134 (n := 5) (by rfl) (rv := [.tmp 2]) (by rfl) (by simp) ?_
  unfold m134
  repeat' (first
      | (simp only [↓wA, ↓wC, wB, frzBE, frzBS, Nat.reduceEqDiff, Nat.reduceAdd, Nat.reduceSub, reduceIte, reduceCtorEq, Nat.reduceBEq, Nat.reduceLT, decide_true])
      | (refine call_det (within_fn _ _ _) rfl rfl ?_)
      | (refine callP_det (within_fn _ _ _) rfl rfl ?_)
      | (refine execG_split (fun h => ?_) (fun h => ?_) <;> simp only [h])
      | (refine execC_split (fun h => ?_) (fun h => ?_) <;> (try simp only [h]))
      | (refine onPick_split (fun h => ?_) (fun h => ?_) <;> (try simp only [h])))
theorem isHoldNumber_fn (n : Int) : Fn prog 98 [.int .i64 n] (fun rs => rs = [.bool (within n 1 9)]) := by
  refine Fn_of' (fn := f98) (by exact func98) c98 r98 (n := 5) (by rfl) (rv := [.tmp 2]) (by rfl) (by simp) ?_
  unfold m98
  repeat' (first
      | (simp only [↓wA, ↓wC, wB, frzBE, frzBS, Nat.reduceEqDiff, Nat.reduceAdd, Nat.reduceSub, reduceIte, reduceCtorEq, Nat.reduceBEq, Nat.reduceLT, decide_true])
      | (refine call_det (within_fn _ _ _) rfl rfl ?_)
      | (refine callP_det (within_fn _ _ _) rfl rfl ?_)
      | (refine execG_split (fun h => ?_) (fun h => ?_) <;> simp only [h])
      | (refine execC_split (fun h => ?_) (fun h => ?_) <;> (try simp only [h]))
      | (refine onPick_split (fun h => ?_) (fun h => ?_) <;> (try simp only [h])))
theorem cloCase_fn (n : Int) : Fn prog 137 [.int .i64 n] (fun rs => rs = [.bool (!within n 1 9)]) := by
  refine Fn_of' (fn := f137) (by exact func137) c137 r137 (n := 6) (by rfl) (rv := [.tmp 2]) (by rfl) (by simp) ?_
  unfold m137
  repeat' (first
      | (simp only [↓wA, ↓wC, wB, frzBE, frzBS, Nat.reduceEqDiff, Nat.reduceAdd, Nat.reduceSub, reduceIte, reduceCtorEq, Nat.reduceBEq, Nat.reduceLT, decide_true])
      | (refine call_det (isHoldNumber_fn n) rfl rfl ?_)
      | (refine callP_det (isHoldNumber_fn n) rfl rfl ?_)
      | (refine execG_split (fun h => ?_) (fun h => ?_) <;> simp only [h])
      | (refine execC_split (fun h => ?_) (fun h => ?_) <;> (try simp only [h]))
      | (refine onPick_split (fun h => ?_) (fun h => ?_) <;> (try simp only [h])))
theorem isCase_fn (x : Cs) (hx : x.ok0) : Fn prog 88 [x.s] (fun rs => rs = [.bool (caseOK x)]) := by
  have hR := isRecordId_fn x.i
  have hA := isAct_fn x.a
  have hD := isDay_fn x.d
  have hS := areRising_fn x.h hx
  have hC := containsFuncI_fn (fun n => !within n 1 9) 137 .nil x.h rfl en137 hx (fun n _ => cloCase_fn n)
  rw [any_not] at hC
  unfold caseOK
  generalize within x.i 1 999 = b1 at *
  generalize within x.a 1 3 = b2 at *
  generalize within x.d 0 20000 = b3 at *
  generalize (x.h.all fun n => within n 1 9) = b4 at *
  generalize rises x.h = b5 at *
  refine Fn_of' (fn := f88) (by exact func88) c88 r88 (n := 33) (by rfl) (rv := [.tmp 2]) (by rfl) (by simp) ?_
  unfold m88
  simp only [Cs.s, Cs.p]
  repeat' (first
      | (simp only [ints_noOwn, onC_true, dl_len, ↓wA, ↓wC, wB, frzBE, frzBS, Nat.reduceEqDiff, Nat.reduceAdd, Nat.reduceSub, reduceIte, reduceCtorEq, Nat.reduceBEq, Nat.reduceLT, decide_true])
      | (refine call_det (hR) rfl rfl ?_)
      | (refine callP_det (hR) rfl rfl ?_)
      | (refine call_det (hA) rfl rfl ?_)
      | (refine callP_det (hA) rfl rfl ?_)
      | (refine call_det (hD) rfl rfl ?_)
      | (refine callP_det (hD) rfl rfl ?_)
      | (refine call_det (hS) rfl rfl ?_)
      | (refine callP_det (hS) rfl rfl ?_)
      | (refine call_det (hC) rfl rfl ?_)
      | (refine callP_det (hC) rfl rfl ?_)
      | (refine execG_split (fun h => ?_) (fun h => ?_) <;> simp only [h])
      | (refine execC_split (fun h => ?_) (fun h => ?_) <;> (try simp only [h]))
      | (refine onPick_split (fun h => ?_) (fun h => ?_) <;> (try simp only [h])))
  all_goals (clear hR hA hD hS hC; simp_all)
theorem l25Case_fn (x : Cs) (hx : x.ok0) : Fn prog 113 [x.s] (fun rs => rs = [.bool (caseOK x)]) := by
  have hR := l1In_fn x.i 1 999
  have hA := l1In_fn x.a 1 3
  have hD := l2Day_fn x.d
  have hS := l1Rising_fn x.h 1 9 hx
  unfold caseOK
  generalize within x.i 1 999 = b1 at *
  generalize within x.a 1 3 = b2 at *
  generalize within x.d 0 20000 = b3 at *
  generalize ((x.h.all fun n => within n 1 9) && rises x.h) = b4 at *
  refine Fn_of' (fn := f113) (by exact func113) c113 r113 (n := 27) (by rfl) (rv := [.tmp 2]) (by rfl) (by simp) ?_
  unfold m113
  simp only [Cs.s, Cs.p]
  repeat' (first
      | (simp only [ints_noOwn, onC_true, dl_len, ↓wA, ↓wC, wB, frzBE, frzBS, Nat.reduceEqDiff, Nat.reduceAdd, Nat.reduceSub, reduceIte, reduceCtorEq, Nat.reduceBEq, Nat.reduceLT, decide_true])
      | (refine call_det (hR) rfl rfl ?_)
      | (refine callP_det (hR) rfl rfl ?_)
      | (refine call_det (hA) rfl rfl ?_)
      | (refine callP_det (hA) rfl rfl ?_)
      | (refine call_det (hD) rfl rfl ?_)
      | (refine callP_det (hD) rfl rfl ?_)
      | (refine call_det (hS) rfl rfl ?_)
      | (refine callP_det (hS) rfl rfl ?_)
      | (refine execG_split (fun h => ?_) (fun h => ?_) <;> simp only [h])
      | (refine execC_split (fun h => ?_) (fun h => ?_) <;> (try simp only [h]))
      | (refine onPick_split (fun h => ?_) (fun h => ?_) <;> (try simp only [h])))
  all_goals (clear hR hA hD hS; simp_all)
end Go.Pe.Tryz

set_option maxRecDepth 100000
set_option maxHeartbeats 4000000
set_option linter.all false
namespace Go.Pe.Tryz
open Go.Proofs.Tryz
theorem fa_cs0 {x : Cs} {K : SV → Prop} : stepFa 0 0 (.d (.ptr x.s)) K = K (.d (.ptr (.int .i64 x.i))) := by simp [Cs.s, Cs.p, stepFa, D.pre, D.nth, D.size]
theorem doff_s0 {x : Cs} : doff [0] x.s = 0 := rfl
theorem dget_s0 {x : Cs} : dget [0] x.s = some (.int .i64 x.i) := rfl
theorem Off.s_isV (o : Off) : o.s.isV = true := rfl
theorem Off.s_size (o : Off) : o.s.size = 5 := rfl
theorem Off.o_isV (o : Off) : o.o.isV = true := rfl
theorem Off.o_size (o : Off) : o.o.size = 5 := rfl
/-- is a case's number greater than that of the one ahead? -/
def ltC (xs : List Cs) (i : Nat) (x : Cs) : Bool := match i with
  | 0 => true
  | k + 1 => match xs[k]? with
    | some y => decide (y.i < x.i)
    | none => true
def stepC (xs : List Cs) (i : Nat) : Bool := match xs[i]? with
  | some x => caseOK x && ltC xs i x
  | none => false
theorem stepC_at {xs : List Cs} {i : Nat} {x : Cs} (hr : xs[i]? = some x) : stepC xs i = (caseOK x && ltC xs i x) := by
  unfold stepC; rw [hr]
def casesOK (xs : List Cs) : Bool := (List.range xs.length).all (stepC xs)
theorem casesOK_bad {xs : List Cs} {i : Nat} (hi : i < xs.length) (h : stepC xs i = false) : casesOK xs = false := by
  refine List.all_eq_false.2 ⟨i, List.mem_range.2 hi, by rw [h]; simp⟩
theorem casesOK_all {xs : List Cs} (h : ∀ j, j < xs.length → stepC xs j = true) : casesOK xs = true :=
  List.all_eq_true.2 fun j hj => h j (List.mem_range.1 hj)
def ledOK (L : List (List UInt8)) : Bool := !decide ((0 : Int) < (L.length : Int)) || ledgerOK L
def headOK (o : Off) : Bool := within o.day 0 20000 && decide ((o.cs.length : Int) ≤ 6) && within o.kept 0 999 && within o.moved 0 999 && ledOK o.led
def offOK (o : Off) : Bool := headOK o && casesOK o.cs
theorem prevC {xs : List Cs} {i : Nat} {x : Cs} (hlt : i < xs.length) : (decide ((0 : Int) < (i : Int)) = false ∧ ltC xs i x = true) ∨ ∃ y, decide ((0 : Int) < (i : Int)) = true ∧ (0 : Int) ≤ (i : Int) - 1 ∧ xs[((i : Int) - 1).toNat]? = some y ∧ decide (x.i ≤ y.i) = !ltC xs i x := by
  cases i with
  | zero => exact .inl ⟨rfl, rfl⟩
  | succ k =>
    obtain ⟨y, hy⟩ := get_lt (show k < xs.length by omega)
    refine .inr ⟨y, decide_eq_true (by omega), by omega, ?_, ?_⟩
    · rw [show (((k + 1 : Nat) : Int) - 1).toNat = k by omega]; exact hy
    · have : ltC xs (k + 1) x = decide (y.i < x.i) := by simp only [ltC, hy]
      rw [this]
      by_cases h : y.i < x.i
      · rw [decide_eq_true h, decide_eq_false (by omega)]; rfl
      · rw [decide_eq_false h, decide_eq_true (by omega)]; rfl
theorem isOffice_fn (o : Off) (ho : o.ok0) : Fn prog 33 [o.s] (fun rs => rs = [.bool (offOK o)]) := by
  have hDay := isDay_fn o.day
  have hK := within_fn o.kept 0 999
  have hM := within_fn o.moved 0 999
  have hL := isLedger_fn o.led ho.2.1
  have hlen := ho.1.1
  have hh : headOK o = (within o.day 0 20000 && decide ((o.cs.length : Int) ≤ 6) && within o.kept 0 999 && within o.moved 0 999 && ledOK o.led) := rfl
  unfold ledOK at hh
  unfold offOK
  have body : headOK o = true → Fn prog 33 [o.s] (fun rs => rs = [.bool (casesOK o.cs)]) := by
    intro hho
    rw [hh] at hho
    simp only [Bool.and_eq_true] at hho
    obtain ⟨⟨⟨⟨q1, q2⟩, q3⟩, q4⟩, q5⟩ := hho
    rw [q1] at hDay
    rw [q3] at hK
    rw [q4] at hM
    have q2' := of_decide_eq_true q2
    have e2 : decide ((6 : Int) < (o.cs.length : Int)) = false := decide_eq_false (by omega)
    generalize hlg : ledgerOK o.led = b5 at *
    refine Fn_of' (fn := f33) (by exact func33) c33 r33 (n := 67) (by rfl) (rv := [.tmp 2]) (by rfl) (by simp) ?_
    unfold m33
    simp only [Off.s, offP]
    repeat' (first
        | (simp only [css_noOwn, strs_noOwn, onC_true, dl_len, e2, ↓wA, ↓wC, wB, frzBE, frzBS, Nat.reduceEqDiff, Nat.reduceAdd, Nat.reduceSub, reduceIte, reduceCtorEq, Nat.reduceBEq, Nat.reduceLT, decide_true])
        | (refine call_det (hDay) rfl rfl ?_)
        | (refine callP_det (hDay) rfl rfl ?_)
        | (refine call_det (hK) rfl rfl ?_)
        | (refine callP_det (hK) rfl rfl ?_)
        | (refine call_det (hM) rfl rfl ?_)
        | (refine callP_det (hM) rfl rfl ?_)
        | (refine call_det (hL) rfl rfl ?_)
        | (refine callP_det (hL) rfl rfl ?_)
        | (refine execG_split (fun h => ?_) (fun h => ?_) <;> simp only [h])
        | (refine execC_split (fun h => ?_) (fun h => ?_) <;> (try simp only [h]))
        | (refine onPick_split (fun h => ?_) (fun h => ?_) <;> (try simp only [h])))
    any_goals (exfalso; clear hDay hK hM hL; simp_all; done)
    all_goals
      refine exec_range o.cs.length (fun i : Nat => ⟨[(1, .ptr 0 0 []), (40, .d (.sl false 4 (dl Cs.s o.cs))), (41, .d (.int .i64 o.cs.length)), (42, .d (.int .i64 i))], [.box o.s]⟩) (fun i => ∀ j, j < i → stepC o.cs j = true) (weak_of _ rfl ⟨⟨rfl, rfl⟩, ⟨rfl, rfl⟩, ⟨rfl, rfl⟩, ⟨rfl, rfl⟩, trivial⟩) (fun j hj => by omega) ?_ ?_
      · intro i hlt hinv hd h0
        obtain ⟨x, hr⟩ := get_lt hlt
        have hst := stepC_at hr
        have hok := isCase_fn x (ho.1.2 x (List.mem_of_getElem? hr))
        simp only [Off.s, offP]
        rcases prevC (x := x) hlt with ⟨hg, hl⟩ | ⟨y, hg, h1, hy, hq⟩
        · rw [hl, Bool.and_true] at hst
          repeat' (first
              | (simp only [css_noOwn, strs_noOwn, dl_len, dl_nth, hd, h0, hg, Int.toNat_natCast, hr, Option.map_some, ↓rd_cs, Cs.s_noOwn, Cs.s_isV, Cs.s_size, Cs.s_unown, onC_true, ↓wA, ↓wC, wB, frzBE, frzBS, Nat.reduceEqDiff, Nat.reduceAdd, Nat.reduceSub, reduceIte, reduceCtorEq, Nat.reduceBEq, Nat.reduceLT, decide_true])
              | (refine call_det (hok) rfl rfl ?_)
              | (refine callP_det (hok) rfl rfl ?_)
              | (with_reducible refine onI_bare ?_ ?_; focus (simp only [InR]; omega))
              | (refine execG_split (fun h => ?_) (fun h => ?_) <;> simp only [h])
              | (refine execC_split (fun h => ?_) (fun h => ?_) <;> (try simp only [h]))
              | (refine onPick_split (fun h => ?_) (fun h => ?_) <;> (try simp only [h])))
          all_goals first
            | (refine next_range (weak_of _ rfl ⟨⟨rfl, rfl⟩, ⟨rfl, rfl⟩, ⟨rfl, rfl⟩, ⟨rfl, rfl⟩, trivial⟩) hlt (all_upto hinv ?_); focus (clear hok; rw [hst]; simp_all; done))
            | (refine (congrArg (fun b => [D.bool b]) (casesOK_bad hlt ?_)).symm; focus (clear hok; rw [hst]; simp_all; done))
            | trace_state
        · repeat' (first
     | (simp only [css_noOwn, strs_noOwn, dl_len, dl_nth, hd, h0, hg, h1, hy, hq, Int.toNat_natCast, hr, Option.map_some, ↓rd_cs, ↓fa_cs0, doff_s0, dget_s0, Cs.s_noOwn, Cs.s_isV, Cs.s_size, Cs.s_unown, onC_true, ↓wA, ↓wC, wB, frzBE, frzBS, Nat.reduceEqDiff, Nat.reduceAdd, Nat.reduceSub, reduceIte, reduceCtorEq, Nat.reduceBEq, Nat.reduceLT, decide_true])
     | (refine call_det (hok) rfl rfl ?_)
     | (refine callP_det (hok) rfl rfl ?_)
     | (with_reducible refine onI_bare ?_ ?_; focus (simp only [InR]; omega))
     | (refine execG_split (fun h => ?_) (fun h => ?_) <;> simp only [h])
     | (refine execC_split (fun h => ?_) (fun h => ?_) <;> (try simp only [h]))
     | (refine onPick_split (fun h => ?_) (fun h => ?_) <;> (try simp only [h])))
          all_goals first
            | (refine next_range (weak_of _ rfl ⟨⟨rfl, rfl⟩, ⟨rfl, rfl⟩, ⟨rfl, rfl⟩, ⟨rfl, rfl⟩, trivial⟩) hlt (all_upto hinv ?_); focus (clear hok; rw [hst]; simp_all; done))
            | (refine (congrArg (fun b => [D.bool b]) (casesOK_bad hlt ?_)).symm; focus (clear hok; rw [hst]; simp_all; done))
            | trace_state
      · intro hinv hd
        have hall := casesOK_all hinv
        rw [hall]
        simp only [Off.s, offP]
        repeat' (first
            | (simp only [css_noOwn, strs_noOwn, dl_len, hd, onC_true, ↓wA, ↓wC, wB, frzBE, frzBS, Nat.reduceEqDiff, Nat.reduceAdd, Nat.reduceSub, reduceIte, reduceCtorEq, Nat.reduceBEq, Nat.reduceLT, decide_true])
            | (refine execG_split (fun h => ?_) (fun h => ?_) <;> simp only [h])
            | (refine execC_split (fun h => ?_) (fun h => ?_) <;> (try simp only [h]))
            | (refine onPick_split (fun h => ?_) (fun h => ?_) <;> (try simp only [h])))
  cases hho : headOK o with
  | true => simpa using body hho
  | false =>
    rw [hh] at hho
    rw [Bool.false_and]
    generalize hlg : ledgerOK o.led = b5 at *
    generalize within o.day 0 20000 = b1 at *
    generalize within o.kept 0 999 = b3 at *
    generalize within o.moved 0 999 = b4 at *
    refine Fn_of' (fn := f33) (by exact func33) c33 r33 (n := 67) (by rfl) (rv := [.tmp 2]) (by rfl) (by simp) ?_
    unfold m33
    simp only [Off.s, offP]
    repeat' (first
        | (simp only [css_noOwn, strs_noOwn, onC_true, dl_len, ↓wA, ↓wC, wB, frzBE, frzBS, Nat.reduceEqDiff, Nat.reduceAdd, Nat.reduceSub, reduceIte, reduceCtorEq, Nat.reduceBEq, Nat.reduceLT, decide_true])
        | (refine call_det (hDay) rfl rfl ?_)
        | (refine callP_det (hDay) rfl rfl ?_)
        | (refine call_det (hK) rfl rfl ?_)
        | (refine callP_det (hK) rfl rfl ?_)
        | (refine call_det (hM) rfl rfl ?_)
        | (refine callP_det (hM) rfl rfl ?_)
        | (refine call_det (hL) rfl rfl ?_)
        | (refine callP_det (hL) rfl rfl ?_)
        | (refine execG_split (fun h => ?_) (fun h => ?_) <;> simp only [h])
        | (refine execC_split (fun h => ?_) (fun h => ?_) <;> (try simp only [h]))
        | (refine onPick_split (fun h => ?_) (fun h => ?_) <;> (try simp only [h])))
    all_goals first
      | rfl
      | (exfalso; clear hDay hK hM hL body; simp_all; done)
      | (exfalso; clear hDay hK hM hL body; simp_all; omega)
theorem l25Good_fn (o : Off) (ho : o.ok0) : Fn prog 67 [o.s] (fun rs => rs = [.bool (offOK o)]) := by
  have hDay := l2Day_fn o.day
  have hK := l1In_fn o.kept 0 999
  have hM := l1In_fn o.moved 0 999
  have hL := l16Good_fn o.led ho.2.1 ho.2.2
  have hlen := ho.1.1
  have hh : headOK o = (within o.day 0 20000 && decide ((o.cs.length : Int) ≤ 6) && within o.kept 0 999 && within o.moved 0 999 && ledOK o.led) := rfl
  unfold ledOK at hh
  unfold offOK
  have body : headOK o = true → Fn prog 67 [o.s] (fun rs => rs = [.bool (casesOK o.cs)]) := by
    intro hho
    rw [hh] at hho
    simp only [Bool.and_eq_true] at hho
    obtain ⟨⟨⟨⟨q1, q2⟩, q3⟩, q4⟩, q5⟩ := hho
    rw [q1] at hDay
    rw [q3] at hK
    rw [q4] at hM
    have q2' := of_decide_eq_true q2
    have e2 : decide ((6 : Int) < (o.cs.length : Int)) = false := decide_eq_false (by omega)
    generalize hlg : ledgerOK o.led = b5 at *
    refine Fn_of' (fn := f67) (by exact func67) c67 r67 (n := 72) (by rfl) (rv := [.tmp 2]) (by rfl) (by simp) ?_
    unfold m67
    simp only [Off.s, offP]
    repeat' (first
        | (simp only [css_noOwn, strs_noOwn, onC_true, dl_len, e2, ↓wA, ↓wC, wB, frzBE, frzBS, Nat.reduceEqDiff, Nat.reduceAdd, Nat.reduceSub, reduceIte, reduceCtorEq, Nat.reduceBEq, Nat.reduceLT, decide_true])
        | (refine call_det (hDay) rfl rfl ?_)
        | (refine callP_det (hDay) rfl rfl ?_)
        | (refine call_det (hK) rfl rfl ?_)
        | (refine callP_det (hK) rfl rfl ?_)
        | (refine call_det (hM) rfl rfl ?_)
        | (refine callP_det (hM) rfl rfl ?_)
        | (refine call_det (hL) rfl rfl ?_)
        | (refine callP_det (hL) rfl rfl ?_)
        | (refine execG_split (fun h => ?_) (fun h => ?_) <;> simp only [h])
        | (refine execC_split (fun h => ?_) (fun h => ?_) <;> (try simp only [h]))
        | (refine onPick_split (fun h => ?_) (fun h => ?_) <;> (try simp only [h])))
    any_goals (exfalso; clear hDay hK hM hL; simp_all; done)
    all_goals
      refine exec_range o.cs.length (fun i : Nat => ⟨[(1, .ptr 0 0 []), (3, .d (.int .i64 i))], [.box o.s]⟩) (fun i => ∀ j, j < i → stepC o.cs j = true) (weak_of _ rfl ⟨⟨rfl, rfl⟩, ⟨rfl, rfl⟩, trivial⟩) (fun j hj => by omega) ?_ ?_
      · intro i hlt hinv hd h0
        obtain ⟨x, hr⟩ := get_lt hlt
        have hst := stepC_at hr
        have hok := l25Case_fn x (ho.1.2 x (List.mem_of_getElem? hr))
        simp only [Off.s, offP]
        rcases prevC (x := x) hlt with ⟨hg, hl⟩ | ⟨y, hg, h1, hy, hq⟩
        · rw [hl, Bool.and_true] at hst
          repeat' (first
              | (simp only [css_noOwn, strs_noOwn, dl_len, dl_nth, hd, h0, hg, Int.toNat_natCast, hr, Option.map_some, ↓rd_cs, Cs.s_noOwn, Cs.s_isV, Cs.s_size, Cs.s_unown, onC_true, ↓wA, ↓wC, wB, frzBE, frzBS, Nat.reduceEqDiff, Nat.reduceAdd, Nat.reduceSub, reduceIte, reduceCtorEq, Nat.reduceBEq, Nat.reduceLT, decide_true])
              | (refine call_det (hok) rfl rfl ?_)
              | (refine callP_det (hok) rfl rfl ?_)
              | (with_reducible refine onI_bare ?_ ?_; focus (simp only [InR]; omega))
              | (refine execG_split (fun h => ?_) (fun h => ?_) <;> simp only [h])
              | (refine execC_split (fun h => ?_) (fun h => ?_) <;> (try simp only [h]))
              | (refine onPick_split (fun h => ?_) (fun h => ?_) <;> (try simp only [h])))
          all_goals first
            | (refine next_range (weak_of _ rfl ⟨⟨rfl, rfl⟩, ⟨rfl, rfl⟩, trivial⟩) hlt (all_upto hinv ?_); focus (clear hok; rw [hst]; simp_all; done))
            | (refine (congrArg (fun b => [D.bool b]) (casesOK_bad hlt ?_)).symm; focus (clear hok; rw [hst]; simp_all; done))
            | trace_state
        · repeat' (first
     | (simp only [css_noOwn, strs_noOwn, dl_len, dl_nth, hd, h0, hg, h1, hy, hq, Int.toNat_natCast, hr, Option.map_some, ↓rd_cs, ↓fa_cs0, doff_s0, dget_s0, Cs.s_noOwn, Cs.s_isV, Cs.s_size, Cs.s_unown, onC_true, ↓wA, ↓wC, wB, frzBE, frzBS, Nat.reduceEqDiff, Nat.reduceAdd, Nat.reduceSub, reduceIte, reduceCtorEq, Nat.reduceBEq, Nat.reduceLT, decide_true])
     | (refine call_det (hok) rfl rfl ?_)
     | (refine callP_det (hok) rfl rfl ?_)
     | (with_reducible refine onI_bare ?_ ?_; focus (simp only [InR]; omega))
     | (refine execG_split (fun h => ?_) (fun h => ?_) <;> simp only [h])
     | (refine execC_split (fun h => ?_) (fun h => ?_) <;> (try simp only [h]))
     | (refine onPick_split (fun h => ?_) (fun h => ?_) <;> (try simp only [h])))
          all_goals first
            | (refine next_range (weak_of _ rfl ⟨⟨rfl, rfl⟩, ⟨rfl, rfl⟩, trivial⟩) hlt (all_upto hinv ?_); focus (clear hok; rw [hst]; simp_all; done))
            | (refine (congrArg (fun b => [D.bool b]) (casesOK_bad hlt ?_)).symm; focus (clear hok; rw [hst]; simp_all; done))
            | trace_state
      · intro hinv hd
        have hall := casesOK_all hinv
        rw [hall]
        simp only [Off.s, offP]
        repeat' (first
            | (simp only [css_noOwn, strs_noOwn, dl_len, hd, onC_true, ↓wA, ↓wC, wB, frzBE, frzBS, Nat.reduceEqDiff, Nat.reduceAdd, Nat.reduceSub, reduceIte, reduceCtorEq, Nat.reduceBEq, Nat.reduceLT, decide_true])
            | (refine execG_split (fun h => ?_) (fun h => ?_) <;> simp only [h])
            | (refine execC_split (fun h => ?_) (fun h => ?_) <;> (try simp only [h]))
            | (refine onPick_split (fun h => ?_) (fun h => ?_) <;> (try simp only [h])))
  cases hho : headOK o with
  | true => simpa using body hho
  | false =>
    rw [hh] at hho
    rw [Bool.false_and]
    generalize hlg : ledgerOK o.led = b5 at *
    generalize within o.day 0 20000 = b1 at *
    generalize within o.kept 0 999 = b3 at *
    generalize within o.moved 0 999 = b4 at *
    refine Fn_of' (fn := f67) (by exact func67) c67 r67 (n := 72) (by rfl) (rv := [.tmp 2]) (by rfl) (by simp) ?_
    unfold m67
    simp only [Off.s, offP]
    repeat' (first
        | (simp only [css_noOwn, strs_noOwn, onC_true, dl_len, ↓wA, ↓wC, wB, frzBE, frzBS, Nat.reduceEqDiff, Nat.reduceAdd, Nat.reduceSub, reduceIte, reduceCtorEq, Nat.reduceBEq, Nat.reduceLT, decide_true])
        | (refine call_det (hDay) rfl rfl ?_)
        | (refine callP_det (hDay) rfl rfl ?_)
        | (refine call_det (hK) rfl rfl ?_)
        | (refine callP_det (hK) rfl rfl ?_)
        | (refine call_det (hM) rfl rfl ?_)
        | (refine callP_det (hM) rfl rfl ?_)
        | (refine call_det (hL) rfl rfl ?_)
        | (refine callP_det (hL) rfl rfl ?_)
        | (refine execG_split (fun h => ?_) (fun h => ?_) <;> simp only [h])
        | (refine execC_split (fun h => ?_) (fun h => ?_) <;> (try simp only [h]))
        | (refine onPick_split (fun h => ?_) (fun h => ?_) <;> (try simp only [h])))
    all_goals first
      | rfl
      | (exfalso; clear hDay hK hM hL body; simp_all; done)
      | (exfalso; clear hDay hK hM hL body; simp_all; omega)
def offSh : Sh := .st (.cons (.int .i64) (.cons (.sl 4 (.st (.cons (.int .i64) (.cons (.int .i64) (.cons (.int .i64) (.cons (.sl 1 (.int .i64)) .nil)))))) (.cons (.int .i64) (.cons (.int .i64) (.cons (.sl 1 .str) .nil)))))
theorem int_of (x : D) (h : Typed (.int .i64) x) : ∃ n : Int, x = iD n ∧ True := by
  obtain ⟨n, rfl, _⟩ := h
  exact ⟨n, rfl, trivial⟩
theorem str_of (x : D) (h : Typed .str x) : ∃ s : List UInt8, x = .str s ∧ s.length ≤ maxLen := by
  obtain ⟨s, rfl, hs⟩ := h
  exact ⟨s, rfl, hs⟩
theorem case_of (x : D) (h : Typed (.st (.cons (.int .i64) (.cons (.int .i64) (.cons (.int .i64) (.cons (.sl 1 (.int .i64)) .nil))))) x) : ∃ c : Cs, x = c.s ∧ c.h.length ≤ maxLen := by
  obtain ⟨_, rfl, _, _, rfl, ⟨i, rfl, _⟩, _, _, rfl, ⟨a, rfl, _⟩, _, _, rfl, ⟨d, rfl, _⟩, _, _, rfl, ⟨ds, rfl, h1, h2⟩, rfl⟩ := h
  obtain ⟨v, hv, hl, _⟩ := typed_list (f := iD) (P := fun _ => True) int_of ds h2
  exact ⟨⟨i, a, d, v⟩, by rw [hv]; rfl, by rw [hl]; exact h1⟩
/-- sizes as they come. -/
def Off.raw (o : Off) : Prop := o.cs.length ≤ maxLen ∧ (∀ x ∈ o.cs, x.h.length ≤ maxLen) ∧ o.led.length ≤ maxLen ∧ ∀ s ∈ o.led, s.length ≤ maxLen
theorem off_of (x : D) (h : Typed offSh x) : ∃ o : Off, x = o.s ∧ o.raw := by
  obtain ⟨_, rfl, _, _, rfl, ⟨day, rfl, _⟩, _, _, rfl, ⟨cs, rfl, c1, c2⟩, _, _, rfl, ⟨k, rfl, _⟩, _, _, rfl, ⟨m, rfl, _⟩, _, _, rfl, ⟨ls, rfl, l1, l2⟩, rfl⟩ := h
  obtain ⟨xs, hxs, hxl, hxp⟩ := typed_list (f := Cs.s) (P := fun c => c.h.length ≤ maxLen) case_of cs c2
  obtain ⟨L, hL, hLl, hLp⟩ := typed_list (f := D.str) (P := fun s => s.length ≤ maxLen) str_of ls l2
  exact ⟨⟨day, xs, k, m, L⟩, by rw [hxs, hL]; rfl, by rw [hxl]; exact c1, hxp, by rw [hLl]; exact l1, hLp⟩
theorem szOff_fn (o : Off) (h : o.raw) : Fn prog 16 [o.s, .int .i64 1048576] (fun rs => ∃ m : Int, rs = [.int .i64 m] ∧ -1 ≤ m ∧ m ≤ 1048576 ∧ (0 ≤ m → o.ok0)) :=
  szOffice_fn o 1048576 (by decide) (by decide) h.1 h.2.1 h.2.2.1 h.2.2.2
end Go.Pe.Tryz


set_option maxRecDepth 100000
set_option maxHeartbeats 4000000
set_option linter.all false
namespace Go.Pe.Tryz
open Go.Proofs.Tryz
/-- a console. -/
structure Con where
  o : Off
  d : List UInt8
  p : List UInt8
  c : Int
def conP (x y : D) : D := .st (.cons x (.cons y .nil))
def Con.s (x : Con) : D := conP x.o.s (logD x.d x.p x.c)
def Con.o' (x : Con) : D := conP x.o.o (logD x.d x.p x.c)
def Con.raw (x : Con) : Prop := x.o.raw ∧ x.d.length ≤ maxLen ∧ x.p.length ≤ maxLen
def Con.ok0 (x : Con) : Prop := x.o.ok0 ∧ x.d.length + x.p.length ≤ 1048576
def conOK (x : Con) : Bool := offOK x.o && lv x.d x.p x.c
theorem logD_noOwn (d p : List UInt8) (c : Int) : (logD d p c).noOwn = true := rfl
theorem logD_unown (d p : List UInt8) (c : Int) : (logD d p c).unown = logD d p c := rfl
theorem logD_isV (d p : List UInt8) (c : Int) : (logD d p c).isV = true := rfl
theorem logD_size (d p : List UInt8) (c : Int) : (logD d p c).size = 3 := rfl
theorem Off.o_noOwn (o : Off) : o.o.noOwn = false := by simp [Off.o, offP, D.noOwn]
theorem Con.s_noOwn (x : Con) : x.s.noOwn = true := by simp [Con.s, conP, D.noOwn, Off.s_noOwn, logD_noOwn]
theorem Con.s_unown (x : Con) : x.s.unown = x.s := by simp [Con.s, conP, D.unown, Off.s_unown, logD_unown]
theorem Con.o_unown (x : Con) : x.o'.unown = x.s := by simp [Con.o', Con.s, conP, D.unown, Off.o_unown, logD_unown]
theorem Con.s_isV (x : Con) : x.s.isV = true := rfl
theorem Con.s_size (x : Con) : x.s.size = 8 := rfl
theorem Con.o_isV (x : Con) : x.o'.isV = true := rfl
theorem Con.o_size (x : Con) : x.o'.size = 8 := rfl
theorem doff_c0 {x : Con} : doff [0] x.s = 0 := rfl
theorem doff_c1 {x : Con} : doff [1] x.s = 5 := rfl
theorem dget_c0 {x : Con} : dget [0] x.s = some x.o.s := rfl
theorem dget_c1 {x : Con} : dget [1] x.s = some (logD x.d x.p x.c) := rfl
theorem rd_con {o : List Ob} {K : SV → Prop} {x : Con} : stepRd o (some 8) x.s K = K (.d x.s) := by simp [Con.s, conP, stepRd, D.size, D.noOwn, Off.s, offP, css_noOwn, strs_noOwn, logD]
theorem rd_log {o : List Ob} {K : SV → Prop} {d p : List UInt8} {c : Int} : stepRd o (some 3) (logD d p c) K = K (.d (logD d p c)) := by simp [stepRd, D.size, D.noOwn, logD]
theorem szLogN_fn (d p : List UInt8) (c n : Int) (h0 : 0 ≤ n) (h1 : n ≤ 1048576) (hd : d.length ≤ maxLen) (hp : p.length ≤ maxLen) : Fn prog 56 [logD d p c, .int .i64 n] (fun rs => ∃ m : Int, rs = [.int .i64 m] ∧ -1 ≤ m ∧ m ≤ n ∧ (0 ≤ m → d.length + p.length ≤ 1048576)) := by
  rw [maxLen_eq] at hd hp
  refine Fn_of' (fn := f56) (by exact func56) c56 r56 (n := 20) (by rfl) (rv := [.tmp 4]) (by rfl) (by simp) ?_
  unfold m56
  simp only [logD]
  repeat' (first
      | (simp only [↓wA, ↓wC, wB, frzBE, frzBS, Nat.reduceEqDiff, Nat.reduceAdd, Nat.reduceSub, reduceIte, reduceCtorEq, Nat.reduceBEq, Nat.reduceLT, decide_true, sz37])
      | (refine onI_bare (by simp only [InR]; omega) ?_)
      | (refine onI_bare (by simp only [InR]; simp only [decide_eq_true_eq, decide_eq_false_iff_not] at *; omega) ?_)
      | (refine execG_split (fun h => ?_) (fun h => ?_) <;> simp only [h])
      | (refine execC_split (fun h => ?_) (fun h => ?_) <;> (try simp only [h]))
      | (refine onPick_split (fun h => ?_) (fun h => ?_) <;> (try simp only [h])))
  all_goals (simp only [decide_eq_true_eq, decide_eq_false_iff_not] at *; exact ⟨_, rfl, by omega, by omega, by omega⟩)
theorem szConsole_fn (x : Con) (h : x.raw) : Fn prog 9 [x.s, .int .i64 1048576] (fun rs => ∃ m : Int, rs = [.int .i64 m] ∧ -1 ≤ m ∧ m ≤ 1048576 ∧ (0 ≤ m → x.ok0)) := by
  have hs := szOff_fn x.o h.1
  refine Fn_of' (fn := f9) (by exact func9) c9 r9 (n := 18) (by rfl) (rv := [.tmp 4]) (by rfl) (by simp) ?_
  unfold m9
  repeat' (first
      | (simp only [doff_c0, doff_c1, dget_c0, dget_c1, logD_noOwn, ↓rd_off, ↓rd_log, Con.s_noOwn, Con.s_isV, Off.s_noOwn, Off.s_isV, onC_true, ↓wA, ↓wC, wB, frzBE, frzBS, Nat.reduceEqDiff, Nat.reduceAdd, Nat.reduceSub, reduceIte, reduceCtorEq, Nat.reduceBEq, Nat.reduceLT, decide_true, sz37])
      | (refine execG_split (fun h => ?_) (fun h => ?_) <;> simp only [h])
      | (refine execC_split (fun h => ?_) (fun h => ?_) <;> (try simp only [h]))
      | (refine onPick_split (fun h => ?_) (fun h => ?_) <;> (try simp only [h])))
  refine call_rel hs (by simp [argsD, argD, Off.s_unown]) fun rs h' => ?_
  obtain ⟨m, rfl, m1, m2, m3⟩ := h'
  refine ⟨.inl rfl, ?_⟩
  cases hm : decide (m < 0) with
  | true =>
    repeat' (first
        | (simp only [hm, ↓wA, ↓wC, wB, frzBE, frzBS, Nat.reduceEqDiff, Nat.reduceAdd, Nat.reduceSub, reduceIte, reduceCtorEq, Nat.reduceBEq, Nat.reduceLT, decide_true, sz37])
        | (refine execG_split (fun h => ?_) (fun h => ?_) <;> simp only [h])
        | (refine execC_split (fun h => ?_) (fun h => ?_) <;> (try simp only [h]))
        | (refine onPick_split (fun h => ?_) (fun h => ?_) <;> (try simp only [h])))
    exact ⟨-1, rfl, by omega, by omega, by omega⟩
  | false =>
    have hm' := of_decide_eq_false hm
    repeat' (first
        | (simp only [hm, doff_c0, doff_c1, dget_c0, dget_c1, logD_noOwn, ↓rd_off, ↓rd_log, onC_true, ↓wA, ↓wC, wB, frzBE, frzBS, Nat.reduceEqDiff, Nat.reduceAdd, Nat.reduceSub, reduceIte, reduceCtorEq, Nat.reduceBEq, Nat.reduceLT, decide_true, sz37])
        | (refine execG_split (fun h => ?_) (fun h => ?_) <;> simp only [h])
        | (refine execC_split (fun h => ?_) (fun h => ?_) <;> (try simp only [h]))
        | (refine onPick_split (fun h => ?_) (fun h => ?_) <;> (try simp only [h])))
    refine call_rel (szLogN_fn x.d x.p x.c m (by omega) m2 h.2.1 h.2.2) (by simp [argsD, argD, logD_unown]) fun rs h' => ?_
    obtain ⟨q, rfl, q1, q2, q3⟩ := h'
    refine ⟨.inl rfl, ?_⟩
    cases hq : decide (q < 0) with
    | true =>
      repeat' (first
          | (simp only [hq, ↓wA, ↓wC, wB, frzBE, frzBS, Nat.reduceEqDiff, Nat.reduceAdd, Nat.reduceSub, reduceIte, reduceCtorEq, Nat.reduceBEq, Nat.reduceLT, decide_true, sz37])
          | (refine execG_split (fun h => ?_) (fun h => ?_) <;> simp only [h])
          | (refine execC_split (fun h => ?_) (fun h => ?_) <;> (try simp only [h]))
          | (refine onPick_split (fun h => ?_) (fun h => ?_) <;> (try simp only [h])))
      exact ⟨-1, rfl, by omega, by omega, by omega⟩
    | false =>
      have hq' := of_decide_eq_false hq
      repeat' (first
          | (simp only [hq, ↓wA, ↓wC, wB, frzBE, frzBS, Nat.reduceEqDiff, Nat.reduceAdd, Nat.reduceSub, reduceIte, reduceCtorEq, Nat.reduceBEq, Nat.reduceLT, decide_true, sz37])
          | (refine execG_split (fun h => ?_) (fun h => ?_) <;> simp only [h])
          | (refine execC_split (fun h => ?_) (fun h => ?_) <;> (try simp only [h]))
          | (refine onPick_split (fun h => ?_) (fun h => ?_) <;> (try simp only [h])))
      exact ⟨q, rfl, by omega, by omega, fun _ => ⟨m3 (by omega), q3 (by omega)⟩⟩
theorem eqConsole_refl (x : Con) (h : x.ok0) : Fn prog 13 [x.s, x.s] (fun rs => rs = [.bool true]) := by
  have h1 := eqOffice_refl x.o h.1
  have h2 := eqLog_fn x.d x.p x.c
  refine Fn_of' (fn := f13) (by exact func13) c13 r13 (n := 17) (by rfl) (rv := [.tmp 4]) (by rfl) (by simp) ?_
  unfold m13
  repeat' (first
      | (simp only [doff_c0, doff_c1, dget_c0, dget_c1, logD_noOwn, ↓rd_off, ↓rd_log, Con.s_noOwn, Con.s_isV, Off.s_noOwn, Off.s_isV, onC_true, decide_true, ↓wA, ↓wC, wB, frzBE, frzBS, Nat.reduceEqDiff, Nat.reduceAdd, Nat.reduceSub, reduceIte, reduceCtorEq, Nat.reduceBEq, Nat.reduceLT, decide_true, sz37])
      | (refine call_det h1 (by simp [argsD, argD, Off.s_unown]) rfl ?_)
      | (refine call_det h2 (by simp [argsD, argD, logD_unown]) rfl ?_)
      | (refine execG_split (fun h => ?_) (fun h => ?_) <;> simp only [h])
      | (refine execC_split (fun h => ?_) (fun h => ?_) <;> (try simp only [h]))
      | (refine onPick_split (fun h => ?_) (fun h => ?_) <;> (try simp only [h])))
  all_goals trace_state
theorem isValidConsole_fn (x : Con) (h : x.ok0) : Fn prog 12 [x.s] (fun rs => rs = [.bool (conOK x)]) := by
  have h1 := isOffice_fn x.o h.1
  have h2 := isValidLog_fn x.d x.p x.c (by have := h.2; omega)
  unfold conOK
  cases hb : offOK x.o <;> rw [hb] at h1
  all_goals
    refine Fn_of' (fn := f12) (by exact func12) c12 r12 (n := 11) (by rfl) (rv := [.tmp 2]) (by rfl) (by simp) ?_
    unfold m12
    repeat' (first
        | (simp only [doff_c0, doff_c1, dget_c0, dget_c1, logD_noOwn, ↓rd_off, ↓rd_log, Con.s_noOwn, Con.s_isV, Off.s_noOwn, Off.s_isV, onC_true, decide_true, ↓wA, ↓wC, wB, frzBE, frzBS, Nat.reduceEqDiff, Nat.reduceAdd, Nat.reduceSub, reduceIte, reduceCtorEq, Nat.reduceBEq, Nat.reduceLT, decide_true, sz37])
        | (refine call_det h1 (by simp [argsD, argD, Off.s_unown]) rfl ?_)
        | (refine call_det h2 (by simp [argsD, argD, logD_unown]) rfl ?_)
        | (refine execG_split (fun h => ?_) (fun h => ?_) <;> simp only [h])
        | (refine execC_split (fun h => ?_) (fun h => ?_) <;> (try simp only [h]))
        | (refine onPick_split (fun h => ?_) (fun h => ?_) <;> (try simp only [h])))
  all_goals simp
theorem l28Good_fn (x : Con) (h : x.ok0) : Fn prog 57 [x.s] (fun rs => rs = [.bool (conOK x)]) := by
  have h1 := l25Good_fn x.o h.1
  have h2 := l27Log_fn x.d x.p x.c (by have := h.2; omega)
  unfold conOK
  cases hb : offOK x.o <;> rw [hb] at h1
  all_goals
    refine Fn_of' (fn := f57) (by exact func57) c57 r57 (n := 11) (by rfl) (rv := [.tmp 2]) (by rfl) (by simp) ?_
    unfold m57
    repeat' (first
        | (simp only [doff_c0, doff_c1, dget_c0, dget_c1, logD_noOwn, ↓rd_off, ↓rd_log, Con.s_noOwn, Con.s_isV, Off.s_noOwn, Off.s_isV, onC_true, decide_true, ↓wA, ↓wC, wB, frzBE, frzBS, Nat.reduceEqDiff, Nat.reduceAdd, Nat.reduceSub, reduceIte, reduceCtorEq, Nat.reduceBEq, Nat.reduceLT, decide_true, sz37])
        | (refine call_det h1 (by simp [argsD, argD, Off.s_unown]) rfl ?_)
        | (refine call_det h2 (by simp [argsD, argD, logD_unown]) rfl ?_)
        | (refine execG_split (fun h => ?_) (fun h => ?_) <;> simp only [h])
        | (refine execC_split (fun h => ?_) (fun h => ?_) <;> (try simp only [h]))
        | (refine onPick_split (fun h => ?_) (fun h => ?_) <;> (try simp only [h])))
  all_goals simp
theorem toConsole_own (x : Con) (h : x.ok0) : Fn prog 11 [x.s] (fun rs => rs = [x.o']) := by
  have h1 := toOffice_own x.o h.1
  have h2 := toLog_fn x.d x.p x.c
  refine Fn_ofg (ps := [[1, 1, 1, 1, 0], [1, 1, 1, 1, 0], [1, 1, 1, 1, 1], [1, 1, 1, 1, 1]]) (fn := f11) (by exact func11) c11 r11 (n := 13) (by rfl) (rv := [.cell 2 37]) (by rfl) (by simp) ?_
  unfold m11
  simp only [ghAll, ghAt]
  repeat' (first
      | (simp only [doff_c0, doff_c1, dget_c0, dget_c1, logD_noOwn, ↓rd_off, ↓rd_log, Con.s_noOwn, Con.s_isV, Off.s_noOwn, Off.s_isV, Off.o_isV, Off.o_size, Off.o_noOwn, logD_isV, logD_size, onC_true, decide_true, ↓wA, ↓wC, wB, frzBE, frzBS, Nat.reduceEqDiff, Nat.reduceAdd, Nat.reduceSub, reduceIte, reduceCtorEq, Nat.reduceBEq, Nat.reduceLT, decide_true, sz37])
      | (refine call_det h1 (by simp [argsD, argD, Off.s_unown]) rfl ?_)
      | (refine call_det h2 (by simp [argsD, argD, logD_unown]) rfl ?_)
      | (refine execG_split (fun h => ?_) (fun h => ?_) <;> simp only [h])
      | (refine execC_split (fun h => ?_) (fun h => ?_) <;> (try simp only [h]))
      | (refine onPick_split (fun h => ?_) (fun h => ?_) <;> (try simp only [h])))
  simp only [Off.o, offP]
  refine exec_gh _ (unlink 2 none [0, 1] (es := 4) (xs := dl Cs.o x.o.cs) rfl rfl) fun v1 => ?_
  simp only [obSet, css_noOwn, strs_noOwn, logD_noOwn, onC_true, ↓wA, ↓wC, wB, frzBE, frzBS, Nat.reduceEqDiff, Nat.reduceAdd, Nat.reduceSub, reduceIte, reduceCtorEq, Nat.reduceBEq, Nat.reduceLT, decide_true, sz37]
  refine exec_gh _ (unlink 2 none [0, 4] (es := 1) (xs := dl D.str x.o.led) rfl rfl) fun v2 => ?_
  simp only [obSet, css_noOwn, strs_noOwn, logD_noOwn, logD, onC_true, ↓wA, ↓wC, wB, frzBE, frzBS, Nat.reduceEqDiff, Nat.reduceAdd, Nat.reduceSub, reduceIte, reduceCtorEq, Nat.reduceBEq, Nat.reduceLT, decide_true, sz37]
  refine exec_gh1 (relink 1 5 4 none [0, 1] rfl rfl rfl rfl (by decide) rfl) ?_
  simp only [obSet, css_noOwn, strs_noOwn, onC_true, ↓wA, ↓wC, wB, frzBE, frzBS, Nat.reduceEqDiff, Nat.reduceAdd, Nat.reduceSub, reduceIte, reduceCtorEq, Nat.reduceBEq, Nat.reduceLT, decide_true, sz37]
  refine exec_gh1 (relink 1 7 6 none [0, 4] rfl rfl rfl rfl (by decide) rfl) ?_
  simp only [obSet, css_noOwn, strs_noOwn, onC_true, ↓wA, ↓wC, wB, frzBE, frzBS, Nat.reduceEqDiff, Nat.reduceAdd, Nat.reduceSub, reduceIte, reduceCtorEq, Nat.reduceBEq, Nat.reduceLT, decide_true, sz37]
  rfl
def logShC : Sh := .st (.cons .str (.cons .str (.cons (.int .i64) .nil)))
def conSh : Sh := .st (.cons offSh (.cons logShC .nil))
theorem con_of (x : D) (h : Typed conSh x) : ∃ c : Con, x = c.s ∧ c.raw := by
  obtain ⟨_, rfl, xo, _, rfl, h1, xl, _, rfl, h2, rfl⟩ := h
  obtain ⟨o, rfl, hr⟩ := off_of xo h1
  obtain ⟨_, rfl, _, _, rfl, ⟨d, rfl, hd⟩, _, _, rfl, ⟨p, rfl, hp⟩, _, _, rfl, ⟨c, rfl, _⟩, rfl⟩ := h2
  exact ⟨⟨o, d, p, c⟩, rfl, hr, hd, hp⟩
end Go.Pe.Tryz

set_option maxRecDepth 100000
set_option maxHeartbeats 4000000
set_option linter.all false
namespace Go.Pe.Tryz
open Go.Proofs.Tryz
theorem strs_rep {w : World} {M : Nat → Prop} : ∀ (L : List (List UInt8)) (ds : List Value) (fps : List Nat), (dl D.str L).rep w M ds fps → ds = L.map (fun s => Value.string ⟨s.toArray⟩)
  | [], ds, fps, h => h.1
  | s :: L, ds, fps, h => by
    obtain ⟨c1, c2, f1, f2, rfl, _, h1, h2⟩ := h
    obtain ⟨rfl, _⟩ := h1
    rw [strs_rep L c2 f2 h2]; rfl
theorem join_fn (L : List (List UInt8)) (sep : List UInt8) (hN : L.length ≤ 1048576) (hlen : (Lib.join L sep).length ≤ 140737488355328) : Fn prog 149 [.sl false 1 (dl D.str L), .str sep] (fun rs => rs = [.str (Lib.join L sep)]) := by
  intro M vs w hM hG hv
  obtain ⟨cs, us, f1, f2, rfl, _, ⟨_, a, c, ds, fps, rfl, hle, hds, hor⟩, ⟨cs2, us2, f3, f4, rfl, _, ⟨rfl, _⟩, rfl, _⟩⟩ := hv
  have hd := strs_rep L ds fps hds
  have hl : (dl D.str L).len = L.length := dl_len L
  have e : (L.map fun s : List UInt8 => (⟨s.toArray⟩ : ByteArray)).map (·.data.toList) = L := by
    rw [List.map_map]; exact (List.map_congr_left (fun s _ => by simp)).trans (List.map_id _)
  have e2 : (⟨sep.toArray⟩ : ByteArray).data.toList = sep := by simp
  have main : Calls prog.P 149 #[.slice a (dl D.str L).len c, .string ⟨sep.toArray⟩] w fun e w' => e = .returned (.string ⟨(Lib.join L sep).toArray⟩) ∧ Ext w w' := by
    cases L with
    | nil => exact (Go.Proofs.Tryz.strings_Join_none a c ⟨sep.toArray⟩ w).mono (by rintro e w' ⟨rfl, rfl⟩; exact ⟨rfl, Ext.refl _⟩)
    | cons x r =>
      rw [hl] at hle hor ⊢
      simp only [Bool.false_eq_true, if_false] at hor
      obtain ⟨rfl, _, h0 | ⟨ad, rfl, hh⟩⟩ := hor
      · simp at h0
      · rcases hh with h | ⟨hlt, hnM, hcell⟩
        · rw [h] at hd; simp at hd
        · have h0 := hcell 0 _ (by rw [hd]; rfl)
          obtain ⟨bk, o, sp⟩ := ad
          cases sp with
          | some s =>
            simp only [World.cell?, Addr.add, if_true] at h0
            split at h0
            · simp at h0
            · cases h0
          | none =>
            have hJ := Go.Proofs.Tryz.strings_Join bk o c ((x :: r).map fun s : List UInt8 => (⟨s.toArray⟩ : ByteArray)) ⟨sep.toArray⟩ w (fun j y hy => by
              rw [List.getElem?_map] at hy
              obtain ⟨s, hs, rfl⟩ := Option.map_eq_some_iff.1 hy
              have := hcell j (.string ⟨s.toArray⟩) (by rw [hd, List.getElem?_map, hs]; rfl)
              unfold Addr.add at this
              split at this
              · rename_i hj; subst hj; exact this
              · exact this) hlt (by rw [List.length_map]; omega) (by rw [List.length_map]; exact hle) (by rw [e, e2]; exact hlen)
            rw [e, e2, List.length_map] at hJ
            exact hJ
  refine Calls.mono main ?_
  rintro e w' ⟨rfl, hx⟩
  exact ⟨[.str (Lib.join L sep)], [.string ⟨(Lib.join L sep).toArray⟩], [], rfl, rfl, plainVs_out rfl, List.nodup_nil, (fun b hb => by cases hb), hx⟩
theorem joinTail_len (sep : List UInt8) (k : Nat) : ∀ r : List (List UInt8), (∀ x ∈ r, x.length ≤ k) → (Lib.joinTail sep r).length ≤ r.length * (sep.length + k)
  | [], _ => by simp [Lib.joinTail]
  | x :: r, h => by
    have h1 := joinTail_len sep k r (fun y hy => h y (List.mem_cons_of_mem _ hy))
    have h2 := h x List.mem_cons_self
    have : Lib.joinTail sep (x :: r) = sep ++ x ++ Lib.joinTail sep r := rfl
    rw [this]
    simp only [List.length_append, List.length_cons, Nat.add_mul, Nat.one_mul]
    omega
theorem join_len (sep : List UInt8) (k : Nat) : ∀ r : List (List UInt8), (∀ x ∈ r, x.length ≤ k) → (Lib.join r sep).length ≤ r.length * (sep.length + k)
  | [], _ => by simp [Lib.join]
  | x :: r, h => by
    have h1 := joinTail_len sep k r (fun y hy => h y (List.mem_cons_of_mem _ hy))
    have h2 := h x List.mem_cons_self
    rw [Lib.join_cons]
    simp only [List.length_append, List.length_cons, Nat.add_mul, Nat.one_mul]
    omega
theorem itoas_len {v : List Int} (hv : ∀ n ∈ v, InR .i64 n) : ∀ x ∈ v.map Lib.itoa, x.length ≤ 21 := by
  intro x hx
  obtain ⟨n, hn, rfl⟩ := List.mem_map.1 hx
  exact itoa_le n (hv n hn)
theorem decimals_fn (v : List Int) (sep : List UInt8) (hv : ∀ n ∈ v, InR .i64 n) (hl : v.length ≤ 1000) (hs : sep.length ≤ 1000) : Fn prog 110 [.sl false 1 (dl iD v), .str sep] (fun rs => rs = [.str (Lib.join (v.map Lib.itoa) sep)]) := by
  have hL := join_len sep 21 (v.map Lib.itoa) (itoas_len hv)
  have hb : (v.map Lib.itoa).length * (sep.length + 21) ≤ 1000 * 1021 := Nat.mul_le_mul (by simpa using hl) (by omega)
  have hJ := join_fn (v.map Lib.itoa) sep (by simp; omega) (by omega)
  refine Fn_of' (fn := f110) (by exact func110) c110 r110 (n := 27) (by rfl) (rv := [.tmp 4]) (by rfl) (by simp) ?_
  unfold m110
  simp only [↓wA, ↓wC, wB, frzBE, frzBS, Nat.reduceEqDiff, Nat.reduceAdd, Nat.reduceSub, reduceIte, reduceCtorEq, Nat.reduceBEq, Nat.reduceLT, decide_true]
  simp only [dl_len, ↓wA, ↓wC, wB, frzBE, frzBS, Nat.reduceEqDiff, Nat.reduceAdd, Nat.reduceSub, reduceIte, reduceCtorEq, Nat.reduceBEq, Nat.reduceLT, decide_true]
  refine onC_i (by omega) ?_
  have hz : ofL (List.replicate (↑v.length : Int).toNat (D.str [])) = dl D.str ((v.map Lib.itoa).take 0 ++ List.replicate (v.length - 0) []) := by
    rw [dl_replicate]; simp
  rw [hz]
  refine exec_range v.length (fun i : Nat => ⟨[(1, .d (.str sep)), (5, .own 0), (11, .d (.sl false 1 (dl iD v))), (12, .d (.int .i64 v.length)), (13, .d (.int .i64 i))], [.val (.sl true 1 (dl D.str ((v.map Lib.itoa).take i ++ List.replicate (v.length - i) [])))]⟩) (fun _ => True) (weak_of _ rfl ⟨⟨rfl, rfl⟩, ⟨rfl, rfl⟩, ⟨rfl, rfl⟩, ⟨rfl, rfl⟩, ⟨rfl, rfl⟩, trivial⟩) trivial ?_ ?_
  · intro i hlt _ hd h0
    obtain ⟨n, hr⟩ := get_lt hlt
    have hrs : (v.map Lib.itoa)[i]? = some (Lib.itoa n) := by rw [List.getElem?_map, hr]; rfl
    have hD := decimal_fn n (hv n (List.mem_of_getElem? hr))
    have hn : ((v.map Lib.itoa).take i ++ List.replicate (v.length - i) ([] : List UInt8))[i]? = some [] := by
      rw [List.getElem?_append_right (by simp; omega), List.length_take, List.length_map, Nat.min_eq_left (by omega), Nat.sub_self, show v.length - i = (v.length - (i + 1)) + 1 by omega]; rfl
    have hfs : (dl D.str ((v.map Lib.itoa).take i ++ List.replicate (v.length - i) ([] : List UInt8))).setN i (D.str (Lib.itoa n)) = dl D.str ((v.map Lib.itoa).take (i + 1) ++ List.replicate (v.length - (i + 1)) []) := by
      have hl : v.length = (v.map Lib.itoa).length := by simp
      rw [dl_setN]
      conv => lhs; rw [hl]
      conv => rhs; rw [hl]
      rw [fill_step hrs]
    repeat' (first
        | (simp only [dl_len, dl_nth, hd, h0, Int.toNat_natCast, hr, hn, hfs, Option.map_some, onC_true, rd_iD, iD, ↓wA, ↓wC, wB, frzBE, frzBS, Nat.reduceEqDiff, Nat.reduceAdd, Nat.reduceSub, reduceIte, reduceCtorEq, Nat.reduceBEq, Nat.reduceLT, decide_true])
        | (refine call_det hD rfl rfl ?_)
        | (with_reducible refine onI_bare ?_ ?_; focus (simp only [InR]; omega))
        | (refine execG_split (fun h => ?_) (fun h => ?_) <;> simp only [h])
        | (refine execC_split (fun h => ?_) (fun h => ?_) <;> (try simp only [h]))
        | (refine onPick_split (fun h => ?_) (fun h => ?_) <;> (try simp only [h])))
    all_goals exact ⟨i + 1, (weak_of _ rfl ⟨⟨rfl, rfl⟩, ⟨rfl, rfl⟩, ⟨rfl, rfl⟩, ⟨rfl, rfl⟩, ⟨rfl, rfl⟩, trivial⟩), by omega, by omega⟩
  · intro _ hd
    have h1 : (v.map Lib.itoa).take v.length = v.map Lib.itoa := List.take_of_length_le (by simp)
    rw [h1, Nat.sub_self, List.replicate_zero, List.append_nil]
    repeat' (first
        | (simp only [dl_len, hd, ↓wA, ↓wC, wB, frzBE, frzBS, Nat.reduceEqDiff, Nat.reduceAdd, Nat.reduceSub, reduceIte, reduceCtorEq, Nat.reduceBEq, Nat.reduceLT, decide_true])
        | (refine call_det hJ (by simp [argsD, argD, valOf, D.unown, strs_unown]) rfl ?_)
        | (refine execG_split (fun h => ?_) (fun h => ?_) <;> simp only [h])
        | (refine execC_split (fun h => ?_) (fun h => ?_) <;> (try simp only [h]))
        | (refine onPick_split (fun h => ?_) (fun h => ?_) <;> (try simp only [h])))
    all_goals trace_state
/-- the text of a case's holds. -/
def heldT (v : List Int) : List UInt8 := if v = [] then [] else [32, 104, 101, 108, 100, 32] ++ Lib.join (v.map Lib.itoa) [44]
theorem heldT_snoc (u : List Int) (n : Int) : heldT (u ++ [n]) = heldT u ++ (if u = [] then [32, 104, 101, 108, 100, 32] else [44]) ++ Lib.itoa n := by
  cases u with
  | nil => simp [heldT, Lib.join_one]
  | cons x r =>
    have h1 : Lib.joinTail [44] (r.map Lib.itoa ++ [Lib.itoa n]) = Lib.joinTail [44] (r.map Lib.itoa) ++ ([44] ++ Lib.itoa n) := by simp [Lib.joinTail]
    simp only [heldT, List.cons_append, if_neg (List.cons_ne_nil _ _), List.map_cons, List.map_append, List.map_nil, Lib.join_cons, h1, List.append_assoc]
theorem heldT_at {v : List Int} {i : Nat} {n : Int} (hr : v[i]? = some n) : heldT (v.take (i + 1)) = heldT (v.take i) ++ (if i = 0 then [32, 104, 101, 108, 100, 32] else [44]) ++ Lib.itoa n := by
  have hi := lt_of_get hr
  rw [take_get hr, heldT_snoc]
  by_cases h : i = 0
  · subst h; simp
  · have : v.take i ≠ [] := by
      intro h'
      have := congrArg List.length h'
      rw [List.length_take, Nat.min_eq_left (by omega)] at this
      exact h this
    rw [if_neg this, if_neg h]
theorem heldT_len {v : List Int} (hv : ∀ n ∈ v, InR .i64 n) : (heldT v).length ≤ 6 + v.length * 22 := by
  unfold heldT
  split
  · simp
  · have := join_len [44] 21 (v.map Lib.itoa) (itoas_len hv)
    simp only [List.length_append, List.length_map, List.length_cons, List.length_nil] at this ⊢
    omega
def word (a : Int) : List UInt8 := if a = 1 then [107, 101, 101, 112] else if a = 2 then [116, 114, 97, 110, 115, 102, 101, 114] else [100, 101, 115, 116, 114, 111, 121]
def txt (x : Cs) : List UInt8 := word x.a ++ [32, 100, 117, 101, 32] ++ Lib.itoa x.d ++ heldT x.h
/-- what of a valid case its text needs. -/
theorem case_facts {x : Cs} (h : caseOK x = true) : (x.a = 1 ∨ x.a = 2 ∨ x.a = 3) ∧ (0 ≤ x.i ∧ InR .i64 x.i) ∧ (0 ≤ x.d ∧ InR .i64 x.d) ∧ x.h.length ≤ 5 ∧ ∀ n ∈ x.h, 0 ≤ n ∧ InR .i64 n := by
  simp only [caseOK, Bool.and_eq_true, within, decide_eq_true_eq, List.all_eq_true] at h
  obtain ⟨⟨⟨⟨h1, h2⟩, h3⟩, h4⟩, h5, _⟩ := h
  refine ⟨by omega, ⟨by omega, by simp only [InR]; omega⟩, ⟨by omega, by simp only [InR]; omega⟩, by omega, fun n hn => ?_⟩
  have := h5 n hn
  exact ⟨by omega, by simp only [InR]; omega⟩
theorem word_len (a : Int) : (word a).length ≤ 8 := by
  unfold word
  split
  · simp
  · split <;> simp
theorem txt_len {x : Cs} (h : caseOK x = true) : (txt x).length ≤ 200 := by
  obtain ⟨_, _, h3, h4, h5⟩ := case_facts h
  have h1 := heldT_len (v := x.h) (fun n hn => (h5 n hn).2)
  have h2 := itoa_le x.d h3.2
  have h6 := word_len x.a
  simp only [txt, List.length_append, List.length_cons, List.length_nil]
  omega
theorem one_less : ((1 : Int) - 1).toNat = 0 := rfl
theorem two_less : ((2 : Int) - 1).toNat = 1 := rfl
theorem three_less : ((3 : Int) - 1).toNat = 2 := rfl
theorem zero_nat : decide ((0 : Int) < ((0 : Nat) : Int)) = false := rfl
theorem one_nat : ((1 : Int)).toNat = 1 := rfl
theorem two_nat : ((2 : Int)).toNat = 2 := rfl
theorem three_nat : ((3 : Int)).toNat = 3 := rfl
theorem caseText_fn (x : Cs) (h : caseOK x = true) : Fn prog 64 [x.s] (fun rs => rs = [.str (txt x)]) := by
  obtain ⟨hA, _, h3, h4, h5⟩ := case_facts h
  have hD := decimal_fn x.d h3.2
  have hH := decimals_fn x.h [44] (fun n hn => (h5 n hn).2) (by omega) (by simp)
  have hT := heldT_len (v := x.h) (fun n hn => (h5 n hn).2)
  have hi := itoa_le x.d h3.2
  have hJl := join_len [44] 21 (x.h.map Lib.itoa) (itoas_len (fun n hn => (h5 n hn).2))
  simp only [List.length_map, List.length_cons, List.length_nil] at hJl
  obtain ⟨xi, a, d, hs⟩ := x
  simp only at hA h3 h4 h5 hD hH hT hi hJl
  unfold txt
  rcases hA with rfl | rfl | rfl
  all_goals
    cases hs with
    | nil =>
      refine Fn_of' (fn := f64) (by exact func64) c64 r64 (n := 26) (by rfl) (rv := [.tmp 2]) (by rfl) (by simp) ?_
      unfold m64
      simp only [Cs.s, Cs.p]
      repeat' (first
          | (simp only [onC_true, ints_noOwn, zero_nat, one_less, two_less, three_less, dl_len, ↓wA, ↓wC, wB, frzBE, frzBS, Nat.reduceEqDiff, Nat.reduceAdd, Nat.reduceSub, reduceIte, reduceCtorEq, Nat.reduceBEq, Nat.reduceLT, decide_true])
          | (refine call_det hD rfl rfl ?_)
          | (refine onJ_q ?_)
          | (with_reducible refine And.intro ?_ ?_)
          | (with_reducible refine onC_i ?_ ?_; focus ((try simp only [List.length_append, List.length_cons, List.length_nil]); omega))
          | (with_reducible refine onI_bare ?_ ?_; focus (simp only [InR]; omega))
          | (refine execG_split (fun h => ?_) (fun h => ?_) <;> simp only [h])
          | (refine execC_split (fun h => ?_) (fun h => ?_) <;> (try simp only [h]))
          | (refine onPick_split (fun h => ?_) (fun h => ?_) <;> (try simp only [h])))
      all_goals (simp [word, heldT]; done)
    | cons n r =>
      have hd0 : decide ((0 : Int) < ((n :: r).length : Int)) = true := decide_eq_true (by simp only [List.length_cons]; omega)
      have hd1 : decide (((n :: r).length : Int) > 0) = true := hd0
      have hT2 : heldT (n :: r) = [32, 104, 101, 108, 100, 32] ++ Lib.join ((n :: r).map Lib.itoa) [44] := rfl
      generalize n :: r = hs at *
      refine Fn_of' (fn := f64) (by exact func64) c64 r64 (n := 26) (by rfl) (rv := [.tmp 2]) (by rfl) (by simp) ?_
      unfold m64
      simp only [Cs.s, Cs.p]
      repeat' (first
          | (simp only [onC_true, ints_noOwn, one_less, two_less, three_less, dl_len, hd0, hd1, ↓wA, ↓wC, wB, frzBE, frzBS, Nat.reduceEqDiff, Nat.reduceAdd, Nat.reduceSub, reduceIte, reduceCtorEq, Nat.reduceBEq, Nat.reduceLT, decide_true])
          | (refine call_det hD rfl rfl ?_)
          | (refine call_det hH rfl rfl ?_)
          | (refine onJ_q ?_)
          | (with_reducible refine And.intro ?_ ?_)
          | (with_reducible refine onC_i ?_ ?_; focus ((try simp only [List.length_append, List.length_cons, List.length_nil]); omega))
          | (with_reducible refine onI_bare ?_ ?_; focus (simp only [InR]; omega))
          | (refine execG_split (fun h => ?_) (fun h => ?_) <;> simp only [h])
          | (refine execC_split (fun h => ?_) (fun h => ?_) <;> (try simp only [h]))
          | (refine onPick_split (fun h => ?_) (fun h => ?_) <;> (try simp only [h])))
      all_goals (simp [word, hT2]; done)
def pre (a : Int) : List UInt8 := word a ++ [32, 100, 117, 101, 32]
theorem pre1 (t : List UInt8) : (107 :: 101 :: 101 :: 112 :: 32 :: 100 :: 117 :: 101 :: 32 :: t : List UInt8) = pre 1 ++ t := rfl
theorem pre2 (t : List UInt8) : (116 :: 114 :: 97 :: 110 :: 115 :: 102 :: 101 :: 114 :: 32 :: 100 :: 117 :: 101 :: 32 :: t : List UInt8) = pre 2 ++ t := rfl
theorem pre3 (t : List UInt8) : (100 :: 101 :: 115 :: 116 :: 114 :: 111 :: 121 :: 32 :: 100 :: 117 :: 101 :: 32 :: t : List UInt8) = pre 3 ++ t := rfl
theorem txt_pre (x : Cs) : txt x = pre x.a ++ (Lib.itoa x.d ++ heldT x.h) := by simp [txt, pre]
theorem pre_len (a : Int) : (pre a).length ≤ 13 := by
  have := word_len a
  simp only [pre, List.length_append, List.length_cons, List.length_nil]
  omega
theorem heldT_0 (v : List Int) : heldT (v.take 0) = [] := rfl
theorem heldT_1 {v : List Int} {i : Nat} {n : Int} (hr : v[i]? = some n) (h : i = 0) : heldT (v.take (i + 1)) = heldT (v.take i) ++ (32 :: 104 :: 101 :: 108 :: 100 :: 32 :: Lib.itoa n) := by
  rw [heldT_at hr, if_pos h, List.append_assoc]; rfl
theorem heldT_2 {v : List Int} {i : Nat} {n : Int} (hr : v[i]? = some n) (h : ¬ i = 0) : heldT (v.take (i + 1)) = heldT (v.take i) ++ (44 :: Lib.itoa n) := by
  rw [heldT_at hr, if_neg h, List.append_assoc]; rfl
theorem l25Text_fn (x : Cs) (h : caseOK x = true) : Fn prog 62 [x.s] (fun rs => rs = [.str (txt x)]) := by
  obtain ⟨hA, _, h3, h4, h5⟩ := case_facts h
  have hD := l1Num_fn x.d h3.1 h3.2
  have hi := itoa_le x.d h3.2
  rw [txt_pre]
  obtain ⟨xi, a, d, hs⟩ := x
  simp only at hA h3 h4 h5 hD hi ⊢
  rcases hA with rfl | rfl | rfl
  · skip
    refine Fn_of' (fn := f62) (by exact func62) c62 r62 (n := 37) (by rfl) (rv := [.tmp 2]) (by rfl) (by simp) ?_
    unfold m62
    simp only [Cs.s, Cs.p]
    repeat' (first
        | (simp only [onC_true, ints_noOwn, zero_nat, one_nat, two_nat, three_nat, ↓wA, ↓wC, wB, frzBE, frzBS, Nat.reduceEqDiff, Nat.reduceAdd, Nat.reduceSub, reduceIte, reduceCtorEq, Nat.reduceBEq, Nat.reduceLT, decide_true])
        | (refine call_det hD rfl rfl ?_)
        | (refine onJ_q ?_)
        | (with_reducible refine And.intro ?_ ?_)
        | (with_reducible refine onC_i ?_ ?_; focus ((try simp only [List.length_append, List.length_cons, List.length_nil]); omega))
        | (with_reducible refine onI_bare ?_ ?_; focus (simp only [InR]; omega))
        | (refine execG_split (fun h => ?_) (fun h => ?_) <;> simp only [h])
        | (refine execC_split (fun h => ?_) (fun h => ?_) <;> (try simp only [h]))
        | (refine onPick_split (fun h => ?_) (fun h => ?_) <;> (try simp only [h])))
    all_goals simp only [pre1, pre2, pre3]
    all_goals have hpl := pre_len 1
    all_goals refine exec_range hs.length (fun i : Nat => ⟨[(1, .ptr 0 0 []), (3, .d (.str (pre 1 ++ (Lib.itoa d ++ heldT (hs.take i))))), (4, .d (.int .i64 i))], [.box (.st (.cons (.int .i64 xi) (.cons (.int .i64 1) (.cons (.int .i64 d) (.cons (.sl false 1 (dl iD hs)) .nil)))))]⟩) (fun _ => True) (by rw [heldT_0, List.append_nil]; exact (weak_of _ rfl ⟨⟨rfl, rfl⟩, ⟨rfl, rfl⟩, ⟨rfl, rfl⟩, trivial⟩)) trivial ?_ ?_
    all_goals first
      | (intro _ hd
         repeat' (first
             | (simp only [onC_true, ints_noOwn, dl_len, hd, List.take_length, ↓wA, ↓wC, wB, frzBE, frzBS, Nat.reduceEqDiff, Nat.reduceAdd, Nat.reduceSub, reduceIte, reduceCtorEq, Nat.reduceBEq, Nat.reduceLT, decide_true])
             | (refine execG_split (fun h => ?_) (fun h => ?_) <;> simp only [h])
             | (refine execC_split (fun h => ?_) (fun h => ?_) <;> (try simp only [h]))
             | (refine onPick_split (fun h => ?_) (fun h => ?_) <;> (try simp only [h])))
         done)
      | skip
    all_goals
      intro i hlt _ hd h0
      obtain ⟨n, hr⟩ := get_lt hlt
      have hn5 := h5 n (List.mem_of_getElem? hr)
      have hN := l1Num_fn n hn5.1 hn5.2
      have hnl := itoa_le n hn5.2
      have hTl := heldT_len (v := hs.take i) (fun m hm => (h5 m (List.mem_of_mem_take hm)).2)
      rw [List.length_take, Nat.min_eq_left (by omega)] at hTl
      by_cases hi0 : i = 0
      · have hq : decide ((i : Int) = 0) = true := decide_eq_true (by omega)
        have hx := heldT_1 hr hi0
        repeat' (first
            | (simp only [onC_true, ints_noOwn, dl_len, dl_nth, hd, h0, hq, Int.toNat_natCast, hr, Option.map_some, rd_iD, iD, ↓wA, ↓wC, wB, frzBE, frzBS, Nat.reduceEqDiff, Nat.reduceAdd, Nat.reduceSub, reduceIte, reduceCtorEq, Nat.reduceBEq, Nat.reduceLT, decide_true])
            | (refine call_det hN rfl rfl ?_)
            | (with_reducible refine onC_i ?_ ?_; focus ((try simp only [List.length_append, List.length_cons, List.length_nil]); omega))
            | (with_reducible refine onI_bare ?_ ?_; focus (simp only [InR]; omega))
            | (refine execG_split (fun h => ?_) (fun h => ?_) <;> simp only [h])
            | (refine execC_split (fun h => ?_) (fun h => ?_) <;> (try simp only [h]))
            | (refine onPick_split (fun h => ?_) (fun h => ?_) <;> (try simp only [h])))
        all_goals (refine ⟨i + 1, ?_, by omega, by omega⟩; rw [hx]; (try simp only [List.append_assoc, List.cons_append, List.nil_append]); exact (weak_of _ rfl ⟨⟨rfl, rfl⟩, ⟨rfl, rfl⟩, ⟨rfl, rfl⟩, trivial⟩))
      · have hq : decide ((i : Int) = 0) = false := decide_eq_false (by omega)
        have hx := heldT_2 hr hi0
        repeat' (first
            | (simp only [onC_true, ints_noOwn, dl_len, dl_nth, hd, h0, hq, Int.toNat_natCast, hr, Option.map_some, rd_iD, iD, ↓wA, ↓wC, wB, frzBE, frzBS, Nat.reduceEqDiff, Nat.reduceAdd, Nat.reduceSub, reduceIte, reduceCtorEq, Nat.reduceBEq, Nat.reduceLT, decide_true])
            | (refine call_det hN rfl rfl ?_)
            | (with_reducible refine onC_i ?_ ?_; focus ((try simp only [List.length_append, List.length_cons, List.length_nil]); omega))
            | (with_reducible refine onI_bare ?_ ?_; focus (simp only [InR]; omega))
            | (refine execG_split (fun h => ?_) (fun h => ?_) <;> simp only [h])
            | (refine execC_split (fun h => ?_) (fun h => ?_) <;> (try simp only [h]))
            | (refine onPick_split (fun h => ?_) (fun h => ?_) <;> (try simp only [h])))
        all_goals (refine ⟨i + 1, ?_, by omega, by omega⟩; rw [hx]; (try simp only [List.append_assoc, List.cons_append, List.nil_append]); exact (weak_of _ rfl ⟨⟨rfl, rfl⟩, ⟨rfl, rfl⟩, ⟨rfl, rfl⟩, trivial⟩))
  · skip
    refine Fn_of' (fn := f62) (by exact func62) c62 r62 (n := 37) (by rfl) (rv := [.tmp 2]) (by rfl) (by simp) ?_
    unfold m62
    simp only [Cs.s, Cs.p]
    repeat' (first
        | (simp only [onC_true, ints_noOwn, zero_nat, one_nat, two_nat, three_nat, ↓wA, ↓wC, wB, frzBE, frzBS, Nat.reduceEqDiff, Nat.reduceAdd, Nat.reduceSub, reduceIte, reduceCtorEq, Nat.reduceBEq, Nat.reduceLT, decide_true])
        | (refine call_det hD rfl rfl ?_)
        | (refine onJ_q ?_)
        | (with_reducible refine And.intro ?_ ?_)
        | (with_reducible refine onC_i ?_ ?_; focus ((try simp only [List.length_append, List.length_cons, List.length_nil]); omega))
        | (with_reducible refine onI_bare ?_ ?_; focus (simp only [InR]; omega))
        | (refine execG_split (fun h => ?_) (fun h => ?_) <;> simp only [h])
        | (refine execC_split (fun h => ?_) (fun h => ?_) <;> (try simp only [h]))
        | (refine onPick_split (fun h => ?_) (fun h => ?_) <;> (try simp only [h])))
    all_goals simp only [pre1, pre2, pre3]
    all_goals have hpl := pre_len 2
    all_goals refine exec_range hs.length (fun i : Nat => ⟨[(1, .ptr 0 0 []), (3, .d (.str (pre 2 ++ (Lib.itoa d ++ heldT (hs.take i))))), (4, .d (.int .i64 i))], [.box (.st (.cons (.int .i64 xi) (.cons (.int .i64 2) (.cons (.int .i64 d) (.cons (.sl false 1 (dl iD hs)) .nil)))))]⟩) (fun _ => True) (by rw [heldT_0, List.append_nil]; exact (weak_of _ rfl ⟨⟨rfl, rfl⟩, ⟨rfl, rfl⟩, ⟨rfl, rfl⟩, trivial⟩)) trivial ?_ ?_
    all_goals first
      | (intro _ hd
         repeat' (first
             | (simp only [onC_true, ints_noOwn, dl_len, hd, List.take_length, ↓wA, ↓wC, wB, frzBE, frzBS, Nat.reduceEqDiff, Nat.reduceAdd, Nat.reduceSub, reduceIte, reduceCtorEq, Nat.reduceBEq, Nat.reduceLT, decide_true])
             | (refine execG_split (fun h => ?_) (fun h => ?_) <;> simp only [h])
             | (refine execC_split (fun h => ?_) (fun h => ?_) <;> (try simp only [h]))
             | (refine onPick_split (fun h => ?_) (fun h => ?_) <;> (try simp only [h])))
         done)
      | skip
    all_goals
      intro i hlt _ hd h0
      obtain ⟨n, hr⟩ := get_lt hlt
      have hn5 := h5 n (List.mem_of_getElem? hr)
      have hN := l1Num_fn n hn5.1 hn5.2
      have hnl := itoa_le n hn5.2
      have hTl := heldT_len (v := hs.take i) (fun m hm => (h5 m (List.mem_of_mem_take hm)).2)
      rw [List.length_take, Nat.min_eq_left (by omega)] at hTl
      by_cases hi0 : i = 0
      · have hq : decide ((i : Int) = 0) = true := decide_eq_true (by omega)
        have hx := heldT_1 hr hi0
        repeat' (first
            | (simp only [onC_true, ints_noOwn, dl_len, dl_nth, hd, h0, hq, Int.toNat_natCast, hr, Option.map_some, rd_iD, iD, ↓wA, ↓wC, wB, frzBE, frzBS, Nat.reduceEqDiff, Nat.reduceAdd, Nat.reduceSub, reduceIte, reduceCtorEq, Nat.reduceBEq, Nat.reduceLT, decide_true])
            | (refine call_det hN rfl rfl ?_)
            | (with_reducible refine onC_i ?_ ?_; focus ((try simp only [List.length_append, List.length_cons, List.length_nil]); omega))
            | (with_reducible refine onI_bare ?_ ?_; focus (simp only [InR]; omega))
            | (refine execG_split (fun h => ?_) (fun h => ?_) <;> simp only [h])
            | (refine execC_split (fun h => ?_) (fun h => ?_) <;> (try simp only [h]))
            | (refine onPick_split (fun h => ?_) (fun h => ?_) <;> (try simp only [h])))
        all_goals (refine ⟨i + 1, ?_, by omega, by omega⟩; rw [hx]; (try simp only [List.append_assoc, List.cons_append, List.nil_append]); exact (weak_of _ rfl ⟨⟨rfl, rfl⟩, ⟨rfl, rfl⟩, ⟨rfl, rfl⟩, trivial⟩))
      · have hq : decide ((i : Int) = 0) = false := decide_eq_false (by omega)
        have hx := heldT_2 hr hi0
        repeat' (first
            | (simp only [onC_true, ints_noOwn, dl_len, dl_nth, hd, h0, hq, Int.toNat_natCast, hr, Option.map_some, rd_iD, iD, ↓wA, ↓wC, wB, frzBE, frzBS, Nat.reduceEqDiff, Nat.reduceAdd, Nat.reduceSub, reduceIte, reduceCtorEq, Nat.reduceBEq, Nat.reduceLT, decide_true])
            | (refine call_det hN rfl rfl ?_)
            | (with_reducible refine onC_i ?_ ?_; focus ((try simp only [List.length_append, List.length_cons, List.length_nil]); omega))
            | (with_reducible refine onI_bare ?_ ?_; focus (simp only [InR]; omega))
            | (refine execG_split (fun h => ?_) (fun h => ?_) <;> simp only [h])
            | (refine execC_split (fun h => ?_) (fun h => ?_) <;> (try simp only [h]))
            | (refine onPick_split (fun h => ?_) (fun h => ?_) <;> (try simp only [h])))
        all_goals (refine ⟨i + 1, ?_, by omega, by omega⟩; rw [hx]; (try simp only [List.append_assoc, List.cons_append, List.nil_append]); exact (weak_of _ rfl ⟨⟨rfl, rfl⟩, ⟨rfl, rfl⟩, ⟨rfl, rfl⟩, trivial⟩))
  · skip
    refine Fn_of' (fn := f62) (by exact func62) c62 r62 (n := 37) (by rfl) (rv := [.tmp 2]) (by rfl) (by simp) ?_
    unfold m62
    simp only [Cs.s, Cs.p]
    repeat' (first
        | (simp only [onC_true, ints_noOwn, zero_nat, one_nat, two_nat, three_nat, ↓wA, ↓wC, wB, frzBE, frzBS, Nat.reduceEqDiff, Nat.reduceAdd, Nat.reduceSub, reduceIte, reduceCtorEq, Nat.reduceBEq, Nat.reduceLT, decide_true])
        | (refine call_det hD rfl rfl ?_)
        | (refine onJ_q ?_)
        | (with_reducible refine And.intro ?_ ?_)
        | (with_reducible refine onC_i ?_ ?_; focus ((try simp only [List.length_append, List.length_cons, List.length_nil]); omega))
        | (with_reducible refine onI_bare ?_ ?_; focus (simp only [InR]; omega))
        | (refine execG_split (fun h => ?_) (fun h => ?_) <;> simp only [h])
        | (refine execC_split (fun h => ?_) (fun h => ?_) <;> (try simp only [h]))
        | (refine onPick_split (fun h => ?_) (fun h => ?_) <;> (try simp only [h])))
    all_goals simp only [pre1, pre2, pre3]
    all_goals have hpl := pre_len 3
    all_goals refine exec_range hs.length (fun i : Nat => ⟨[(1, .ptr 0 0 []), (3, .d (.str (pre 3 ++ (Lib.itoa d ++ heldT (hs.take i))))), (4, .d (.int .i64 i))], [.box (.st (.cons (.int .i64 xi) (.cons (.int .i64 3) (.cons (.int .i64 d) (.cons (.sl false 1 (dl iD hs)) .nil)))))]⟩) (fun _ => True) (by rw [heldT_0, List.append_nil]; exact (weak_of _ rfl ⟨⟨rfl, rfl⟩, ⟨rfl, rfl⟩, ⟨rfl, rfl⟩, trivial⟩)) trivial ?_ ?_
    all_goals first
      | (intro _ hd
         repeat' (first
             | (simp only [onC_true, ints_noOwn, dl_len, hd, List.take_length, ↓wA, ↓wC, wB, frzBE, frzBS, Nat.reduceEqDiff, Nat.reduceAdd, Nat.reduceSub, reduceIte, reduceCtorEq, Nat.reduceBEq, Nat.reduceLT, decide_true])
             | (refine execG_split (fun h => ?_) (fun h => ?_) <;> simp only [h])
             | (refine execC_split (fun h => ?_) (fun h => ?_) <;> (try simp only [h]))
             | (refine onPick_split (fun h => ?_) (fun h => ?_) <;> (try simp only [h])))
         done)
      | skip
    all_goals
      intro i hlt _ hd h0
      obtain ⟨n, hr⟩ := get_lt hlt
      have hn5 := h5 n (List.mem_of_getElem? hr)
      have hN := l1Num_fn n hn5.1 hn5.2
      have hnl := itoa_le n hn5.2
      have hTl := heldT_len (v := hs.take i) (fun m hm => (h5 m (List.mem_of_mem_take hm)).2)
      rw [List.length_take, Nat.min_eq_left (by omega)] at hTl
      by_cases hi0 : i = 0
      · have hq : decide ((i : Int) = 0) = true := decide_eq_true (by omega)
        have hx := heldT_1 hr hi0
        repeat' (first
            | (simp only [onC_true, ints_noOwn, dl_len, dl_nth, hd, h0, hq, Int.toNat_natCast, hr, Option.map_some, rd_iD, iD, ↓wA, ↓wC, wB, frzBE, frzBS, Nat.reduceEqDiff, Nat.reduceAdd, Nat.reduceSub, reduceIte, reduceCtorEq, Nat.reduceBEq, Nat.reduceLT, decide_true])
            | (refine call_det hN rfl rfl ?_)
            | (with_reducible refine onC_i ?_ ?_; focus ((try simp only [List.length_append, List.length_cons, List.length_nil]); omega))
            | (with_reducible refine onI_bare ?_ ?_; focus (simp only [InR]; omega))
            | (refine execG_split (fun h => ?_) (fun h => ?_) <;> simp only [h])
            | (refine execC_split (fun h => ?_) (fun h => ?_) <;> (try simp only [h]))
            | (refine onPick_split (fun h => ?_) (fun h => ?_) <;> (try simp only [h])))
        all_goals (refine ⟨i + 1, ?_, by omega, by omega⟩; rw [hx]; (try simp only [List.append_assoc, List.cons_append, List.nil_append]); exact (weak_of _ rfl ⟨⟨rfl, rfl⟩, ⟨rfl, rfl⟩, ⟨rfl, rfl⟩, trivial⟩))
      · have hq : decide ((i : Int) = 0) = false := decide_eq_false (by omega)
        have hx := heldT_2 hr hi0
        repeat' (first
            | (simp only [onC_true, ints_noOwn, dl_len, dl_nth, hd, h0, hq, Int.toNat_natCast, hr, Option.map_some, rd_iD, iD, ↓wA, ↓wC, wB, frzBE, frzBS, Nat.reduceEqDiff, Nat.reduceAdd, Nat.reduceSub, reduceIte, reduceCtorEq, Nat.reduceBEq, Nat.reduceLT, decide_true])
            | (refine call_det hN rfl rfl ?_)
            | (with_reducible refine onC_i ?_ ?_; focus ((try simp only [List.length_append, List.length_cons, List.length_nil]); omega))
            | (with_reducible refine onI_bare ?_ ?_; focus (simp only [InR]; omega))
            | (refine execG_split (fun h => ?_) (fun h => ?_) <;> simp only [h])
            | (refine execC_split (fun h => ?_) (fun h => ?_) <;> (try simp only [h]))
            | (refine onPick_split (fun h => ?_) (fun h => ?_) <;> (try simp only [h])))
        all_goals (refine ⟨i + 1, ?_, by omega, by omega⟩; rw [hx]; (try simp only [List.append_assoc, List.cons_append, List.nil_append]); exact (weak_of _ rfl ⟨⟨rfl, rfl⟩, ⟨rfl, rfl⟩, ⟨rfl, rfl⟩, trivial⟩))
end Go.Pe.Tryz
