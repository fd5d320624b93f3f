/- Roots of ledgers: the loops, walked (the program's round is taken as told: roundOK); The root of an office's ledger, walked (the program's round as told: roundOK); The library's iterator over the pieces of a slice of numbers, two at a time: its contract; The program's round: the body of its loop, walked; what it is behind the loop -/
import Derived.Test.YthndnmhihndiaaaDoorW1
import Derived.RangeFuncNested
import Derived.RangeFuncBound
import Derived.RangeFuncCalls
import Derived.RangeFuncBox
import Derived.RangeFuncLeaves
import Derived.Shelf.Abstract
import Derived.Shelf.RegionOpen
import Derived.RegionTactic
import Derived.RegionIn
import Derived.WalkKit
import Derived.OwnWalkIn
import Derived.TacticsInMore
import Derived.LoopNIn
import Derived.LoopIn
import Derived.Test.YthndnmhihndiaaaDoorProg
import Derived.Test.YthndnmhihndiaaaDoorPeD
import Derived.Test.YthndnmhihndiaaaDoorMc1
import Derived.Test.YthndnmhihndiaaaDoorMc2
set_option maxRecDepth 100000
set_option maxHeartbeats 4000000
set_option linter.all false
namespace Go.Pe.Tryd
open Go.Proofs.Tryd
/-- the root of hashes. -/
def rootF (v : List Int) : Int := if h : v.length ≤ 1 then v.headD 0 else rootF (roundL v)
termination_by v.length
decreasing_by rw [roundL_len]; omega
theorem rootF_one {v : List Int} {a : Int} (h : v.length ≤ 1) (ha : v[0]? = some a) : rootF v = a := by
  rw [rootF, dif_pos h]
  cases v with
  | nil => simp at ha
  | cons b r => simpa using ha
theorem rootF_more {v : List Int} (h : ¬ v.length ≤ 1) : rootF (roundL v) = rootF v := by
  conv => rhs; rw [rootF, dif_neg h]
theorem toNat0 : Int.toNat 0 = 0 := rfl
theorem le00 : ((0 : Int) ≤ 0) = True := by simp
theorem leaves_ok (L : List (List UInt8)) : ∀ n ∈ L.map leafH, hashOK n := by
  intro n hn
  obtain ⟨s, _, rfl⟩ := List.mem_map.1 hn
  exact leafH_ok s
theorem l16Root_fn (L : List (List UInt8)) (hl : L.length ≤ 8) (h1 : 1 ≤ L.length) (hx : ∀ s ∈ L, s.length ≤ 100) : Fn prog 51 [.sl false 1 (dl D.str L)] (fun rs => rs = [.int .i64 (rootF (L.map leafH))]) := by
  have hL := l16Leaves_fn L hl hx
  refine Fn_of' (fn := f51) (by exact func51) c51 r51 (n := 14) (by rfl) (rv := [.tmp 2]) (by rfl) (by simp) ?_
  unfold m51
  repeat' (first
      | (simp only [onC_true, ↓wA, ↓wC, wB, frzBE, frzBS, Nat.reduceEqDiff, Nat.reduceAdd, Nat.reduceSub, reduceIte, reduceCtorEq, Nat.reduceBEq, Nat.reduceLT, decide_true])
      | (refine call_det (hL) rfl rfl ?_)
      | (refine callP_det (hL) rfl rfl ?_)
      | (refine execG_split (fun h => ?_) (fun h => ?_) <;> simp only [h])
      | (refine execC_split (fun h => ?_) (fun h => ?_) <;> (try simp only [h]))
      | (refine onPick_split (fun h => ?_) (fun h => ?_) <;> (try simp only [h])))
  refine exec_loop (fun x : List Int => ⟨[(3, .d (.sl false 1 (dl iD x)))], []⟩) (fun x => rootF x = rootF (L.map leafH) ∧ (∀ n ∈ x, hashOK n) ∧ 1 ≤ x.length ∧ x.length ≤ 8) (fun x => x.length) (L.map leafH) ((frzO 0 rfl).trans (weak_of _ rfl ⟨⟨by simp only [frzE, frzS, D.unown, ints_unown, ↓wA, ↓wC, wB, frzBE, frzBS, Nat.reduceEqDiff, Nat.reduceAdd, Nat.reduceSub, reduceIte, reduceCtorEq, Nat.reduceBEq, Nat.reduceLT, decide_true], rfl⟩, trivial⟩)) ⟨rfl, leaves_ok L, by simpa using h1, by simpa using hl⟩ ?_
  rintro x ⟨x1, x2, x3, x4⟩
  have hR := l16Round_fn x (by omega) x2
  have hrl := roundL_len x
  have hoA : ([D.sl true 1 (dl iD (roundL x))].all D.allOwn) = true := by simp [D.allOwn, dl_allOwn iD_allOwn]
  by_cases hgt : 1 < x.length
  · have hd : decide ((1 : Int) < (x.length : Int)) = true := decide_eq_true (by omega)
    repeat' (first
        | (simp only [dl_len, hd, onC_true, ↓wA, ↓wC, wB, frzBE, frzBS, Nat.reduceEqDiff, Nat.reduceAdd, Nat.reduceSub, reduceIte, reduceCtorEq, Nat.reduceBEq, Nat.reduceLT, decide_true])
        | (refine call_det hR rfl rfl ?_)
        | (refine execG_split (fun h => ?_) (fun h => ?_) <;> simp only [h])
        | (refine execC_split (fun h => ?_) (fun h => ?_) <;> (try simp only [h]))
        | (refine onPick_split (fun h => ?_) (fun h => ?_) <;> (try simp only [h])))
    refine ⟨roundL x, ((frzO 0 rfl).trans (weak_of _ rfl ⟨⟨by simp only [frzE, frzS, D.unown, ints_unown, ↓wA, ↓wC, wB, frzBE, frzBS, Nat.reduceEqDiff, Nat.reduceAdd, Nat.reduceSub, reduceIte, reduceCtorEq, Nat.reduceBEq, Nat.reduceLT, decide_true], rfl⟩, trivial⟩)), ⟨(rootF_more (by omega)).trans x1, roundL_ok x x2, by omega, by omega⟩, by omega⟩
  · have hd : decide ((1 : Int) < (x.length : Int)) = false := decide_eq_false (by omega)
    obtain ⟨a, ha⟩ := get_lt (show 0 < x.length by omega)
    have hro := rootF_one (by omega) ha
    repeat' (first
        | (simp only [dl_len, hd, onC_true, dl_nth, toNat0, le00, ints_noOwn, ha, Option.map_some, rd_iD, iD, ↓wA, ↓wC, wB, frzBE, frzBS, Nat.reduceEqDiff, Nat.reduceAdd, Nat.reduceSub, reduceIte, reduceCtorEq, Nat.reduceBEq, Nat.reduceLT, decide_true])
        | (refine execG_split (fun h => ?_) (fun h => ?_) <;> simp only [h])
        | (refine execC_split (fun h => ?_) (fun h => ?_) <;> (try simp only [h]))
        | (refine onPick_split (fun h => ?_) (fun h => ?_) <;> (try simp only [h])))
    all_goals rw [← x1, hro]
/-- what is asked of the program's round. -/
def roundOK : Prop := ∀ v : List Int, v.length ≤ 1000 → (∀ n ∈ v, hashOK n) → Fn prog 78 [.sl false 1 (dl iD v)] (fun rs => rs = [.sl true 1 (dl iD (roundL v))])
theorem rootOf_fn (hRd : roundOK) (L : List (List UInt8)) (hl : L.length ≤ 1048576) : Fn prog 55 [.sl false 1 (dl D.str L)] (fun rs => rs = if ledgerOK L = true then [.int .i64 (rootF (L.map leafH)), .bool true] else [.int .i64 0, .bool false]) := by
  have hV := isLedger_fn L hl
  cases hv : ledgerOK L with
  | false =>
    rw [hv] at hV
    refine Fn_of' (fn := f55) (by exact func55) c55 r55 (n := 18) (by rfl) (rv := [.tmp 2, .tmp 3]) (by rfl) (by simp) ?_
    unfold m55
    repeat' (first
        | (simp only [onC_true, ↓wA, ↓wC, wB, frzBE, frzBS, Nat.reduceEqDiff, Nat.reduceAdd, Nat.reduceSub, reduceIte, reduceCtorEq, Nat.reduceBEq, Nat.reduceLT, decide_true])
        | (refine call_det (hV) rfl rfl ?_)
        | (refine callP_det (hV) rfl rfl ?_)
        | (refine execG_split (fun h => ?_) (fun h => ?_) <;> simp only [h])
        | (refine execC_split (fun h => ?_) (fun h => ?_) <;> (try simp only [h]))
        | (refine onPick_split (fun h => ?_) (fun h => ?_) <;> (try simp only [h])))
    all_goals simp
  | true =>
    rw [hv] at hV
    simp only [ledgerOK, Bool.and_eq_true, within, decide_eq_true_eq, List.all_eq_true] at hv
    obtain ⟨⟨h1, h8⟩, hx⟩ := hv
    have hx' : ∀ s ∈ L, s.length ≤ 100 := fun s hs => by
      have := hx s hs
      simp only [entryOK, Bool.and_eq_true] at this
      have := within_len s.length this.1
      omega
    have hL := hashesOf_fn L (by omega) hx'
    refine Fn_of' (fn := f55) (by exact func55) c55 r55 (n := 18) (by rfl) (rv := [.tmp 2, .tmp 3]) (by rfl) (by simp) ?_
    unfold m55
    repeat' (first
        | (simp only [onC_true, ↓wA, ↓wC, wB, frzBE, frzBS, Nat.reduceEqDiff, Nat.reduceAdd, Nat.reduceSub, reduceIte, reduceCtorEq, Nat.reduceBEq, Nat.reduceLT, decide_true])
        | (refine call_det (hV) rfl rfl ?_)
        | (refine callP_det (hV) rfl rfl ?_)
        | (refine call_det (hL) rfl rfl ?_)
        | (refine callP_det (hL) rfl rfl ?_)
        | (refine execG_split (fun h => ?_) (fun h => ?_) <;> simp only [h])
        | (refine execC_split (fun h => ?_) (fun h => ?_) <;> (try simp only [h]))
        | (refine onPick_split (fun h => ?_) (fun h => ?_) <;> (try simp only [h])))
    refine exec_loop (fun x : List Int => ⟨[(4, .d (.sl false 1 (dl iD x)))], []⟩) (fun x => rootF x = rootF (L.map leafH) ∧ (∀ n ∈ x, hashOK n) ∧ 1 ≤ x.length ∧ x.length ≤ 8) (fun x => x.length) (L.map leafH) ((frzO 0 rfl).trans (weak_of _ rfl ⟨⟨by simp only [frzE, frzS, D.unown, ints_unown, ↓wA, ↓wC, wB, frzBE, frzBS, Nat.reduceEqDiff, Nat.reduceAdd, Nat.reduceSub, reduceIte, reduceCtorEq, Nat.reduceBEq, Nat.reduceLT, decide_true], rfl⟩, trivial⟩)) ⟨rfl, leaves_ok L, by simp; omega, by simp; omega⟩ ?_
    rintro x ⟨x1, x2, x3, x4⟩
    have hR := hRd x (by omega) x2
    have hrl := roundL_len x
    have hoA : ([D.sl true 1 (dl iD (roundL x))].all D.allOwn) = true := by simp [D.allOwn, dl_allOwn iD_allOwn]
    by_cases hgt : 1 < x.length
    · have hd : decide ((1 : Int) < (x.length : Int)) = true := decide_eq_true (by omega)
      repeat' (first
          | (simp only [dl_len, hd, onC_true, ↓wA, ↓wC, wB, frzBE, frzBS, Nat.reduceEqDiff, Nat.reduceAdd, Nat.reduceSub, reduceIte, reduceCtorEq, Nat.reduceBEq, Nat.reduceLT, decide_true])
          | (refine call_det hR rfl rfl ?_)
          | (refine execG_split (fun h => ?_) (fun h => ?_) <;> simp only [h])
          | (refine execC_split (fun h => ?_) (fun h => ?_) <;> (try simp only [h]))
          | (refine onPick_split (fun h => ?_) (fun h => ?_) <;> (try simp only [h])))
      refine ⟨roundL x, ((frzO 0 rfl).trans (weak_of _ rfl ⟨⟨by simp only [frzE, frzS, D.unown, ints_unown, ↓wA, ↓wC, wB, frzBE, frzBS, Nat.reduceEqDiff, Nat.reduceAdd, Nat.reduceSub, reduceIte, reduceCtorEq, Nat.reduceBEq, Nat.reduceLT, decide_true], rfl⟩, trivial⟩)), ⟨(rootF_more (by omega)).trans x1, roundL_ok x x2, by omega, by omega⟩, by omega⟩
    · have hd : decide ((1 : Int) < (x.length : Int)) = false := decide_eq_false (by omega)
      obtain ⟨a, ha⟩ := get_lt (show 0 < x.length by omega)
      have hro := rootF_one (by omega) ha
      repeat' (first
          | (simp only [dl_len, hd, onC_true, dl_nth, toNat0, le00, ints_noOwn, ha, Option.map_some, rd_iD, iD, ↓wA, ↓wC, wB, frzBE, frzBS, Nat.reduceEqDiff, Nat.reduceAdd, Nat.reduceSub, reduceIte, reduceCtorEq, Nat.reduceBEq, Nat.reduceLT, decide_true])
          | (refine execG_split (fun h => ?_) (fun h => ?_) <;> simp only [h])
          | (refine execC_split (fun h => ?_) (fun h => ?_) <;> (try simp only [h]))
          | (refine onPick_split (fun h => ?_) (fun h => ?_) <;> (try simp only [h])))
      all_goals rw [← x1, hro]
end Go.Pe.Tryd

set_option maxRecDepth 100000
set_option maxHeartbeats 4000000
set_option linter.all false
namespace Go.Pe.Tryd
open Go.Proofs.Tryd
theorem doff_o4 {x : Off} : doff [4] x.s = 4 := rfl
theorem dget_o4 {x : Off} : dget [4] x.s = some (.sl false 1 (dl D.str x.led)) := rfl
def rootR (o : Off) : List D := if offOK o = true ∧ ledgerOK o.led = true then [.int .i64 (rootF (o.led.map leafH)), .bool true] else [.int .i64 0, .bool false]
theorem implRoot_fn (hRd : roundOK) (o : Off) (ho : o.ok0) : Fn prog 23 [o.s] (fun rs => rs = rootR o) := by
  have hV := isOffice_fn o ho
  have hR := rootOf_fn hRd o.led ho.2.1
  unfold rootR
  cases hv : offOK o with
  | false =>
    rw [hv] at hV
    refine Fn_of' (fn := f23) (by exact func23) c23 r23 (n := 12) (by rfl) (rv := [.tmp 2, .tmp 3]) (by rfl) (by simp) ?_
    unfold m23
    repeat' (first
        | (simp only [Off.s_noOwn, Off.s_isV, ↓rd_off, onC_true, ↓wA, ↓wC, wB, frzBE, frzBS, Nat.reduceEqDiff, Nat.reduceAdd, Nat.reduceSub, reduceIte, reduceCtorEq, Nat.reduceBEq, Nat.reduceLT, decide_true])
        | (refine call_det hV (by simp [argsD, argD, Off.s_unown]) rfl ?_)
        | (refine execG_split (fun h => ?_) (fun h => ?_) <;> simp only [h])
        | (refine execC_split (fun h => ?_) (fun h => ?_) <;> (try simp only [h]))
        | (refine onPick_split (fun h => ?_) (fun h => ?_) <;> (try simp only [h])))
    all_goals simp
  | true =>
    rw [hv] at hV
    cases hl : ledgerOK o.led with
    | true =>
      rw [hl, if_pos rfl] at hR
      refine Fn_of' (fn := f23) (by exact func23) c23 r23 (n := 12) (by rfl) (rv := [.tmp 2, .tmp 3]) (by rfl) (by simp) ?_
      unfold m23
      repeat' (first
          | (simp only [Off.s_noOwn, Off.s_isV, ↓rd_off, onC_true, doff_o4, dget_o4, strs_noOwn, ↓wA, ↓wC, wB, frzBE, frzBS, Nat.reduceEqDiff, Nat.reduceAdd, Nat.reduceSub, reduceIte, reduceCtorEq, Nat.reduceBEq, Nat.reduceLT, decide_true])
          | (refine call_det (hR) rfl rfl ?_)
          | (refine callP_det (hR) rfl rfl ?_)
          | (refine call_det hV (by simp [argsD, argD, Off.s_unown]) rfl ?_)
          | (refine execG_split (fun h => ?_) (fun h => ?_) <;> simp only [h])
          | (refine execC_split (fun h => ?_) (fun h => ?_) <;> (try simp only [h]))
          | (refine onPick_split (fun h => ?_) (fun h => ?_) <;> (try simp only [h])))
      all_goals simp
    | false =>
      rw [hl, if_neg (by simp)] at hR
      refine Fn_of' (fn := f23) (by exact func23) c23 r23 (n := 12) (by rfl) (rv := [.tmp 2, .tmp 3]) (by rfl) (by simp) ?_
      unfold m23
      repeat' (first
          | (simp only [Off.s_noOwn, Off.s_isV, ↓rd_off, onC_true, doff_o4, dget_o4, strs_noOwn, ↓wA, ↓wC, wB, frzBE, frzBS, Nat.reduceEqDiff, Nat.reduceAdd, Nat.reduceSub, reduceIte, reduceCtorEq, Nat.reduceBEq, Nat.reduceLT, decide_true])
          | (refine call_det (hR) rfl rfl ?_)
          | (refine callP_det (hR) rfl rfl ?_)
          | (refine call_det hV (by simp [argsD, argD, Off.s_unown]) rfl ?_)
          | (refine execG_split (fun h => ?_) (fun h => ?_) <;> simp only [h])
          | (refine execC_split (fun h => ?_) (fun h => ?_) <;> (try simp only [h]))
          | (refine onPick_split (fun h => ?_) (fun h => ?_) <;> (try simp only [h])))
      all_goals simp
theorem offOK_led {o : Off} (h : offOK o = true) : decide ((0 : Int) < (o.led.length : Int)) = ledgerOK o.led := by
  simp only [offOK, headOK, ledOK, Bool.and_eq_true, Bool.or_eq_true, Bool.not_eq_true'] at h
  rcases h.1.2 with h | h
  · rw [h]
    have : ¬ (0 : Int) < (o.led.length : Int) := of_decide_eq_false h
    have e : o.led.length = 0 := by omega
    symm
    simp [ledgerOK, within, e]
  · rw [h]
    simp only [ledgerOK, Bool.and_eq_true, within, decide_eq_true_eq] at h
    exact decide_eq_true (by omega)
theorem specRoot_fn (o : Off) (ho : o.ok0) : Fn prog 21 [o.s] (fun rs => rs = rootR o) := by
  have hV := l25Good_fn o ho
  unfold rootR
  cases hv : offOK o with
  | false =>
    rw [hv] at hV
    refine Fn_of' (fn := f21) (by exact func21) c21 r21 (n := 16) (by rfl) (rv := [.tmp 2, .tmp 3]) (by rfl) (by simp) ?_
    unfold m21
    repeat' (first
        | (simp only [Off.s_noOwn, Off.s_isV, ↓rd_off, onC_true, ↓wA, ↓wC, wB, frzBE, frzBS, Nat.reduceEqDiff, Nat.reduceAdd, Nat.reduceSub, reduceIte, reduceCtorEq, Nat.reduceBEq, Nat.reduceLT, decide_true])
        | (refine call_det hV (by simp [argsD, argD, Off.s_unown]) rfl ?_)
        | (refine execG_split (fun h => ?_) (fun h => ?_) <;> simp only [h])
        | (refine execC_split (fun h => ?_) (fun h => ?_) <;> (try simp only [h]))
        | (refine onPick_split (fun h => ?_) (fun h => ?_) <;> (try simp only [h])))
    all_goals simp
  | true =>
    rw [hv] at hV
    have hq := offOK_led hv
    cases hl : ledgerOK o.led with
    | true =>
      rw [hl] at hq
      have hq' := of_decide_eq_true hq
      have h0 : decide ((o.led.length : Int) = 0) = false := decide_eq_false (by omega)
      have hx : ∀ s ∈ o.led, s.length ≤ 100 := fun s hs => by
        simp only [ledgerOK, Bool.and_eq_true, within, decide_eq_true_eq, List.all_eq_true] at hl
        have := hl.2 s hs
        simp only [entryOK, Bool.and_eq_true] at this
        have := within_len s.length this.1
        omega
      have hR := l16Root_fn o.led (by simp only [ledgerOK, Bool.and_eq_true, within, decide_eq_true_eq] at hl; omega) (by omega) hx
      refine Fn_of' (fn := f21) (by exact func21) c21 r21 (n := 16) (by rfl) (rv := [.tmp 2, .tmp 3]) (by rfl) (by simp) ?_
      unfold m21
      repeat' (first
          | (simp only [h0, dl_len, Off.s_noOwn, Off.s_isV, ↓rd_off, onC_true, doff_o4, dget_o4, strs_noOwn, ↓wA, ↓wC, wB, frzBE, frzBS, Nat.reduceEqDiff, Nat.reduceAdd, Nat.reduceSub, reduceIte, reduceCtorEq, Nat.reduceBEq, Nat.reduceLT, decide_true])
          | (refine call_det (hR) rfl rfl ?_)
          | (refine callP_det (hR) rfl rfl ?_)
          | (refine call_det hV (by simp [argsD, argD, Off.s_unown]) rfl ?_)
          | (refine execG_split (fun h => ?_) (fun h => ?_) <;> simp only [h])
          | (refine execC_split (fun h => ?_) (fun h => ?_) <;> (try simp only [h]))
          | (refine onPick_split (fun h => ?_) (fun h => ?_) <;> (try simp only [h])))
      all_goals simp
    | false =>
      rw [hl] at hq
      have hq' := of_decide_eq_false hq
      have h0 : decide ((o.led.length : Int) = 0) = true := decide_eq_true (by omega)
      refine Fn_of' (fn := f21) (by exact func21) c21 r21 (n := 16) (by rfl) (rv := [.tmp 2, .tmp 3]) (by rfl) (by simp) ?_
      unfold m21
      repeat' (first
          | (simp only [h0, dl_len, Off.s_noOwn, Off.s_isV, ↓rd_off, onC_true, doff_o4, dget_o4, strs_noOwn, ↓wA, ↓wC, wB, frzBE, frzBS, Nat.reduceEqDiff, Nat.reduceAdd, Nat.reduceSub, reduceIte, reduceCtorEq, Nat.reduceBEq, Nat.reduceLT, decide_true])
          | (refine call_det hV (by simp [argsD, argD, Off.s_unown]) rfl ?_)
          | (refine execG_split (fun h => ?_) (fun h => ?_) <;> simp only [h])
          | (refine execC_split (fun h => ?_) (fun h => ?_) <;> (try simp only [h]))
          | (refine onPick_split (fun h => ?_) (fun h => ?_) <;> (try simp only [h])))
      all_goals simp
theorem lawLedger_fn (hRd : roundOK) (o : Off) (hr : o.raw) : Fn prog 4 [o.s] (fun rs => rs = [.bool true]) := by
  refine Fn_of' (fn := f4) (by exact func4) c4 r4 (n := 40) (by rfl) (rv := [.tmp 2]) (by rfl) (by simp) ?_
  unfold m4
  repeat' (first
      | (simp only [Off.s_noOwn, Off.s_isV, ↓rd_off, onC_true, ↓wA, ↓wC, wB, frzBE, frzBS, Nat.reduceEqDiff, Nat.reduceAdd, Nat.reduceSub, reduceIte, reduceCtorEq, Nat.reduceBEq, Nat.reduceLT, decide_true])
      | (refine execG_split (fun h => ?_) (fun h => ?_) <;> simp only [h])
      | (refine execC_split (fun h => ?_) (fun h => ?_) <;> (try simp only [h]))
      | (refine onPick_split (fun h => ?_) (fun h => ?_) <;> (try simp only [h])))
  refine call_rel (szOff_fn o hr) (by simp [argsD, argD, Off.s_unown]) fun rs h => ?_
  obtain ⟨m, rfl, m1, m2, m3⟩ := h
  refine ⟨.inl rfl, ?_⟩
  cases hd : decide (m < 0) with
  | true =>
    repeat' (first
        | (simp only [hd, ↓wA, ↓wC, wB, frzBE, frzBS, Nat.reduceEqDiff, Nat.reduceAdd, Nat.reduceSub, reduceIte, reduceCtorEq, Nat.reduceBEq, Nat.reduceLT, decide_true])
        | (refine execG_split (fun h => ?_) (fun h => ?_) <;> simp only [h])
        | (refine execC_split (fun h => ?_) (fun h => ?_) <;> (try simp only [h]))
        | (refine onPick_split (fun h => ?_) (fun h => ?_) <;> (try simp only [h])))
  | false =>
    have hd' := of_decide_eq_false hd
    have ho := m3 (by omega)
    have hT := toOffice_fn o ho
    have hS := specRoot_fn o ho
    have hI := implRoot_fn hRd o ho
    have hE := eqOffice_refl o ho
    have hR : ∃ n b, rootR o = [.int .i64 n, .bool b] := by unfold rootR; split <;> exact ⟨_, _, rfl⟩
    obtain ⟨n, b, hR⟩ := hR
    rw [hR] at hS hI
    have hbb : (b == b) = true := by cases b <;> rfl
    have hnn : decide (n = n) = true := decide_eq_true rfl
    repeat' (first
        | (simp only [hd, hbb, hnn, Off.s_noOwn, Off.s_isV, Off.s_size, ↓rd_off, onC_true, ↓wA, ↓wC, wB, frzBE, frzBS, Nat.reduceEqDiff, Nat.reduceAdd, Nat.reduceSub, reduceIte, reduceCtorEq, Nat.reduceBEq, Nat.reduceLT, decide_true])
        | (refine call_det hT (by simp [argsD, argD, Off.s_unown]) rfl ?_)
        | (refine callP_det hT (by simp [argsD, argD, Off.s_unown]) rfl ?_)
        | (refine call_det hS (by simp [argsD, argD, Off.s_unown]) rfl ?_)
        | (refine call_det hI (by simp [argsD, argD, Off.s_unown]) rfl ?_)
        | (refine callP_det hE (by simp [argsD, argD, Off.s_unown]) rfl ?_)
        | (refine execG_split (fun h => ?_) (fun h => ?_) <;> simp only [h])
        | (refine execC_split (fun h => ?_) (fun h => ?_) <;> (try simp only [h]))
        | (refine onPick_split (fun h => ?_) (fun h => ?_) <;> (try simp only [h])))
    all_goals trace_state
end Go.Pe.Tryd

set_option linter.all false
namespace Go.Proofs.ChkTryd
open Go.Proofs Go.RowKit Go.Shelf
attribute [local go_sem] Oper.semAt_some
/-- what a round that goes on keeps: what lay below n₀, and the two captured variables. -/
def Keep (n₀ Bs Bn : Nat) (W W' : World) : Prop := Below n₀ W W' ∧ W'.heap[Bs]? = W.heap[Bs]? ∧ W'.heap[Bn]? = W.heap[Bn]?
theorem Keep.refl (n₀ Bs Bn : Nat) (W : World) : Keep n₀ Bs Bn W W := ⟨Below.refl _ _, rfl, rfl⟩
theorem Keep.trans {n₀ Bs Bn : Nat} {A B C : World} (h : Keep n₀ Bs Bn A B) (k : Keep n₀ Bs Bn B C) : Keep n₀ Bs Bn A C := ⟨h.1.trans k.1, k.2.1.trans h.2.1, k.2.2.trans h.2.2⟩
theorem Keep.drew {n₀ Bs Bn : Nat} {A B : World} (h : Keep n₀ Bs Bn A B) : Keep n₀ Bs Bn A B.drew := ⟨h.1.drew, h.2.1, h.2.2⟩
/-- the piece from 2k on. -/
abbrev Ix (len : Nat) := { k : Nat // 2 * k < len }
def enc (b off len : Nat) (k : Nat) : Array Value := #[.slice (some ⟨b, off + 2 * k, none⟩) (min 2 (len - 2 * k)) (min 2 (len - 2 * k))]
theorem drew_abides {β : Type} {B : Nat} {J : β → World → Prop} (h : AbidesFrom B J) {s : β} {W : World} (hs : J s W) : J s W.drew :=
  h s W W.drew none hs ⟨rfl, rfl, rfl, Nat.le_refl _, fun _ _ _ => rfl⟩ (fun _ e => by cases e)
set_option maxRecDepth 100000 in
set_option maxHeartbeats 4000000 in
theorem chunk1_in (F : Fence) (n : Nat) (h7 : F.fn 124) (hro : F.round = none) (hn : 1 ≤ n) (l Bs Bn n₀ b off len cap : Nat) (hcap : len ≤ cap) (hreach : len ≤ 1048576) (hb : b < n₀) (J Jx : List (Ix len) → World → Prop) (hJ : ∀ s W, J s W → J s W.drew)
    (hY : ∀ pre x W, J pre W → pre.length < (len + 1) / 2 → YieldAt F (n - 1) Tryd.prog l (enc b off len x.1) W fun e W' =>
      (e = .returned (.bool true) ∧ J (pre ++ [x]) W' ∧ Keep n₀ Bs Bn W W') ∨ (e = .returned (.bool false) ∧ Jx (pre ++ [x]) W'))
    (W : World) (hBs : W.cell? ⟨Bs, 0, none⟩ = some (.slice (some ⟨b, off, none⟩) len cap)) (hBn : W.cell? ⟨Bn, 0, none⟩ = some (.int .i64 2)) (h0 : J [] W) :
    CallsIn F n Tryd.prog 124 #[.func (.yield l) #[] #[], .pointer (some ⟨Bs, 0, none⟩), .pointer (some ⟨Bn, 0, none⟩)] W fun e W' => (∃ v, e = .returned v) ∧
      ((∃ ys : List (Ix len), ys.map (·.1) = List.range ((len + 1) / 2) ∧ J ys W') ∨ (∃ pre, Jx pre W')) := by
  refine callsIn_of_wp Tryd.func124 rfl h7 ?_ hro
  have hnt : Tryd.f124.ntmps = 31 := rfl
  simp only [hnt, List.size_toArray, List.length_cons, List.length_nil, Nat.reduceAdd, Nat.reduceSub, Array.replicate_succ, Array.replicate_zero, List.push_toArray, List.append_toArray, List.nil_append, List.cons_append]
  gi_wp2
  gi_loopw [4] (fun i wr => ∃ k : Nat, 2 * k ≤ len + 1 ∧ i = .int .i64 (2 * k : Nat) ∧ (∃ ys : List (Ix len), ys.map (·.1) = List.range k ∧ J ys wr) ∧ Keep n₀ Bs Bn W wr)
    (fun i _ => len + 2 - (intOf i).toNat)
  case atStart => exact ⟨0, by omega, rfl, ⟨[], rfl, h0⟩, Keep.refl _ _ _ _⟩
  case round =>
    obtain ⟨k, hk, rfl, ⟨ys, hys, hJs⟩, hnx, hs1, hs2⟩ := hrel
    have hBs' : wr.cell? ⟨Bs, 0, none⟩ = some (.slice (some ⟨b, off, none⟩) len cap) := by unfold World.cell? at hBs ⊢; rw [hs1]; exact hBs
    have hBn' : wr.cell? ⟨Bn, 0, none⟩ = some (.int .i64 2) := by unfold World.cell? at hBn ⊢; rw [hs2]; exact hBn
    by_cases hlt : 2 * k < len
    · obtain ⟨fn, tmps, assign, body, hy, hR⟩ := hY ys ⟨k, hlt⟩ wr.drew (hJ _ _ hJs) (by have := congrArg List.length hys; simp at this; omega)
      have hBs3 : ∀ W3, Keep n₀ Bs Bn wr.drew W3 → W3.cell? ⟨Bs, 0, none⟩ = some (.slice (some ⟨b, off, none⟩) len cap) := fun W3 h => by
        unfold World.cell? at hBs' ⊢; rw [h.2.1]; exact hBs'
      have hBn3 : ∀ W3, Keep n₀ Bs Bn wr.drew W3 → W3.cell? ⟨Bn, 0, none⟩ = some (.int .i64 2) := fun W3 h => by
        unfold World.cell? at hBn' ⊢; rw [h.2.2]; exact hBn'
      have hKd : Keep n₀ Bs Bn W wr.drew := (Keep.drew ⟨hnx, hs1, hs2⟩)
      gi_wp2
      gi_region
      all_goals gi_wp2
      all_goals
        first
          | (have e : (#[Value.slice (some { block := b, off := off + 2 * k }) ((2 * ↑k + (2 : Int)).toNat - 2 * k) ((2 * ↑k + (2 : Int)).toNat - 2 * k)] : Array Value) = enc b off len k := by
              unfold enc; rw [show (2 * ↑k + (2 : Int)).toNat - 2 * k = min 2 (len - 2 * k) by omega]
             rw [e, hy])
          | (have e : (#[Value.slice (some { block := b, off := off + 2 * k }) ((2 * ↑k + min (2 : Int) ↑(len - 2 * k)).toNat - 2 * k) ((2 * ↑k + min (2 : Int) ↑(len - 2 * k)).toNat - 2 * k)] : Array Value) = enc b off len k := by
              unfold enc; rw [show (2 * ↑k + min (2 : Int) ↑(len - 2 * k)).toNat - 2 * k = min 2 (len - 2 * k) by omega]
             rw [e, hy])
          | (have e : (#[Value.slice (some { block := b, off := off + 2 * k }) ((2 * ↑k + ↑(len - 2 * k) : Int).toNat - 2 * k) ((2 * ↑k + ↑(len - 2 * k) : Int).toNat - 2 * k)] : Array Value) = enc b off len k := by
              unfold enc; rw [show (2 * ↑k + ↑(len - 2 * k) : Int).toNat - 2 * k = min 2 (len - 2 * k) by omega]
             rw [e, hy])
        gi_wp2
        refine hR.mono ?_
        rintro e W3 (⟨rfl, hJ3, hk3⟩ | ⟨rfl, hJx3⟩)
        · have hb3 := hBn3 W3 hk3
          gi_wp2
          go_roundw
          case rel => exact ⟨k + 1, by omega, by simp; omega, ⟨ys ++ [⟨k, hlt⟩], by simp [hys, List.range_succ], hJ3⟩, hKd.trans hk3⟩
          case measure => simp [intOf]; omega
        · gi_wp2
          refine bodyPost_ret (results_none rfl _ _ _) rfl ?_
          exact ⟨⟨_, rfl⟩, .inr ⟨_, hJx3⟩⟩
    · gi_wp2
      go_end0
      exact ⟨⟨_, rfl⟩, .inl ⟨ys, by rw [hys]; congr 1; omega, hJs⟩⟩
set_option maxRecDepth 100000 in
set_option maxHeartbeats 4000000 in
theorem chunk1_nil_in (F : Fence) (n : Nat) (h7 : F.fn 124) (hro : F.round = none) (l Bs Bn : Nat) (a : Option Addr) (cap : Nat) (J : World → Prop) (W : World) (hBs : W.cell? ⟨Bs, 0, none⟩ = some (.slice a 0 cap)) (h0 : J W) :
    CallsIn F n Tryd.prog 124 #[.func (.yield l) #[] #[], .pointer (some ⟨Bs, 0, none⟩), .pointer (some ⟨Bn, 0, none⟩)] W fun e W' => (∃ v, e = .returned v) ∧ J W' := by
  refine callsIn_of_wp Tryd.func124 rfl h7 ?_ hro
  have hnt : Tryd.f124.ntmps = 31 := rfl
  simp only [hnt, List.size_toArray, List.length_cons, List.length_nil, Nat.reduceAdd, Nat.reduceSub, Array.replicate_succ, Array.replicate_zero, List.push_toArray, List.append_toArray, List.nil_append, List.cons_append]
  gi_wp2
  gi_loopw [4] (fun i wr => i = .int .i64 0 ∧ wr = W) (fun _ _ => 0)
  case atStart => exact ⟨rfl, rfl⟩
  case round =>
    obtain ⟨rfl, rfl⟩ := hrel
    gi_wp2
    go_end0
    exact ⟨⟨_, rfl⟩, h0⟩
set_option maxRecDepth 100000 in
set_option maxHeartbeats 4000000 in
/-- slices.Chunk(s, 2): the two arguments are boxed; the function value captures the boxes. -/
theorem chunk_in (F : Fence) (n : Nat) (h5 : F.fn 107) (hro : F.round = none) (a : Option Addr) (len cap : Nat) (w : World) :
    CallsIn F n Tryd.prog 107 #[.slice a len cap, .int .i64 2] w fun e w' => e = .returned (.func (.func 124) #[] #[.pointer (some ⟨w.heap.size, 0, none⟩), .pointer (some ⟨w.heap.size + 1, 0, none⟩)]) ∧
      w' = (w.alloc (.cells #[.slice a len cap] 27)).alloc (.cells #[.int .i64 2] 3) := by
  refine callsIn_of_wp Tryd.func107 rfl h5 ?_ hro
  have hnt : Tryd.f107.ntmps = 9 := rfl
  simp only [hnt, List.size_toArray, List.length_cons, List.length_nil, Nat.reduceAdd, Nat.reduceSub, Array.replicate_succ, Array.replicate_zero, List.push_toArray, List.append_toArray, List.nil_append, List.cons_append]
  gi_wp2
  go_ret
  exact ⟨by simp, rfl⟩
/-- what it hands back yields the pieces one after the other. -/
theorem chunk_stops (F : Fence) (n : Nat) (h7 : F.fn 124) (hro : F.round = none) (hn : 1 ≤ n) (Bs Bn n₀ b off len cap : Nat) (a : Option Addr) (hreach : len ≤ 1048576) (w : World)
    (ha : len = 0 ∨ (a = some ⟨b, off, none⟩ ∧ len ≤ cap ∧ b < n₀)) (hBs : Bs < w.heap.size) (hBn : Bn < w.heap.size) (hcs : w.cell? ⟨Bs, 0, none⟩ = some (.slice a len cap)) (hcn : w.cell? ⟨Bn, 0, none⟩ = some (.int .i64 2)) :
    SeqStopsK F n Tryd.prog 124 #[.pointer (some ⟨Bs, 0, none⟩), .pointer (some ⟨Bn, 0, none⟩)] (fun x : Ix len => enc b off len x.1) (Keep n₀ Bs Bn) (fun ys => ys.map (·.1) = List.range ((len + 1) / 2)) (fun _ => True) ((len + 1) / 2) w := fun l J Jx W hW hJ _ hY h0 => by
  have hcs' := (hW.cell (p := ⟨Bs, 0, none⟩) hBs).trans hcs
  have hcn' := (hW.cell (p := ⟨Bn, 0, none⟩) hBn).trans hcn
  rcases ha with rfl | ⟨rfl, hcap, hb⟩
  · exact (chunk1_nil_in F n h7 hro l Bs Bn a cap (J []) W hcs' h0).mono fun e W' ⟨he, hj⟩ => ⟨he, .inl ⟨[], rfl, hj⟩⟩
  · exact (chunk1_in F n h7 hro hn l Bs Bn n₀ b off len cap hcap hreach hb J Jx (fun s W h => drew_abides hJ h) hY W hcs' hcn' h0).mono fun e W' ⟨he, hj⟩ => ⟨he, hj.imp id fun ⟨pre, h⟩ => ⟨pre, trivial, h⟩⟩
end Go.Proofs.ChkTryd

set_option maxRecDepth 100000
set_option maxHeartbeats 4000000
set_option linter.all false
namespace Go.Pe.Tryd
open Go Go.Proofs.Tryd
theorem roundBody (out pr : List Int) (g : Int) (hg : (∃ a b, pr = [a, b] ∧ hashOK a ∧ hashOK b ∧ g = pairH a b) ∨ pr = [g]) (ho : out.length ≤ 1000000) :
    ∃ b, (Go.Proofs.Tryd.f78).body.bind rfBody = some b ∧ ∀ (c : Ctx), c.G = prog → c.nn = (8, (Go.Proofs.Tryd.f78).ntmps) → ∀ C a w, Rel c ⟨[(3, .ptr 0 0 []), (4, .d (.sl false 1 (dl iD pr)))], [.box (.sl true 1 (dl iD out))]⟩ C a w → ∀ r n, b.wpIn (Fence.wide.inRound r) n prog.P (fun e a' w' => ∃ s' C', (e = .normal ∧ look s'.e 3 = .ptr 0 0 [] ∧ ∃ x, s'.o = .box (.sl true 1 (dl iD (out ++ [g]))) :: x) ∧ Rel c s' C' a' w') a w := by
  rcases hg with ⟨a, b, rfl, ha, hb, rfl⟩ | rfl
  · have hP := pairHash_fn a b ha hb
    have i0 : ([a, b] : List Int)[(0 : Int).toNat]? = some a := rfl
    have i1 : ([a, b] : List Int)[(1 : Int).toNat]? = some b := rfl
    have d2 : decide (((2 : Nat) : Int) = 2) = true := rfl
    refine body_in (ps := [[0, 1, 0]]) cb78 nb78 (by rfl) (Q := fun e s' => e = .normal ∧ look s'.e 3 = .ptr 0 0 [] ∧ ∃ x, s'.o = .box (.sl true 1 (dl iD (out ++ [pairH a b]))) :: x) ?_
    unfold mb78
    simp only [ghAll, ghAt]
    repeat' (first
        | (simp only [dl_len, d2, ↓wA, ↓wC, wB, frzBE, frzBS, Nat.reduceEqDiff, Nat.reduceAdd, Nat.reduceSub, reduceIte, reduceCtorEq, Nat.reduceBEq, Nat.reduceLT, decide_true])
        | (refine execG_split (fun h => ?_) (fun h => ?_) <;> simp only [h])
        | (refine execC_split (fun h => ?_) (fun h => ?_) <;> (try simp only [h]))
        | (refine onPick_split (fun h => ?_) (fun h => ?_) <;> (try simp only [h])))
    refine exec_gh _ (unlink 0 none [] (es := 1) (xs := dl iD out) rfl rfl) fun v => ?_
    simp only [obSet, ↓wA, ↓wC, wB, frzBE, frzBS, Nat.reduceEqDiff, Nat.reduceAdd, Nat.reduceSub, reduceIte, reduceCtorEq, Nat.reduceBEq, Nat.reduceLT, decide_true]
    repeat' (first
        | (simp only [dl_len, dl_nth, onC_true, i0, i1, Option.map_some, rd_iD, iD, ↓wA, ↓wC, wB, frzBE, frzBS, Nat.reduceEqDiff, Nat.reduceAdd, Nat.reduceSub, reduceIte, reduceCtorEq, Nat.reduceBEq, Nat.reduceLT, decide_true])
        | (refine call_det (hP) rfl rfl ?_)
        | (refine callP_det (hP) rfl rfl ?_)
        | (refine onJ_q ?_)
        | (refine callP_det hP rfl rfl ?_)
        | (with_reducible refine onC_i ?_ ?_; focus omega)
        | (refine execG_split (fun h => ?_) (fun h => ?_) <;> simp only [h])
        | (refine execC_split (fun h => ?_) (fun h => ?_) <;> (try simp only [h]))
        | (refine onPick_split (fun h => ?_) (fun h => ?_) <;> (try simp only [h])))
    refine onC_i (by simp) (onC_i (by omega) ?_)
    rw [show (dl iD out).app (.cons (.int .i64 (pairH a b)) .nil) = dl iD (out ++ [pairH a b]) from app_one (f := iD) out _]
    exact ⟨_, rfl⟩
  · have i0 : ([g] : List Int)[(0 : Int).toNat]? = some g := rfl
    have d2 : decide (((1 : Nat) : Int) = 2) = false := rfl
    refine body_in (ps := [[0, 1, 1]]) cb78 nb78 (by rfl) (Q := fun e s' => e = .normal ∧ look s'.e 3 = .ptr 0 0 [] ∧ ∃ x, s'.o = .box (.sl true 1 (dl iD (out ++ [g]))) :: x) ?_
    unfold mb78
    simp only [ghAll, ghAt]
    repeat' (first
        | (simp only [dl_len, d2, ↓wA, ↓wC, wB, frzBE, frzBS, Nat.reduceEqDiff, Nat.reduceAdd, Nat.reduceSub, reduceIte, reduceCtorEq, Nat.reduceBEq, Nat.reduceLT, decide_true])
        | (refine execG_split (fun h => ?_) (fun h => ?_) <;> simp only [h])
        | (refine execC_split (fun h => ?_) (fun h => ?_) <;> (try simp only [h]))
        | (refine onPick_split (fun h => ?_) (fun h => ?_) <;> (try simp only [h])))
    refine exec_gh _ (unlink 0 none [] (es := 1) (xs := dl iD out) rfl rfl) fun v => ?_
    simp only [obSet, ↓wA, ↓wC, wB, frzBE, frzBS, Nat.reduceEqDiff, Nat.reduceAdd, Nat.reduceSub, reduceIte, reduceCtorEq, Nat.reduceBEq, Nat.reduceLT, decide_true]
    repeat' (first
        | (simp only [dl_len, dl_nth, onC_true, i0, Option.map_some, rd_iD, iD, ↓wA, ↓wC, wB, frzBE, frzBS, Nat.reduceEqDiff, Nat.reduceAdd, Nat.reduceSub, reduceIte, reduceCtorEq, Nat.reduceBEq, Nat.reduceLT, decide_true])
        | (refine onJ_q ?_)
        | (with_reducible refine onC_i ?_ ?_; focus omega)
        | (refine execG_split (fun h => ?_) (fun h => ?_) <;> simp only [h])
        | (refine execC_split (fun h => ?_) (fun h => ?_) <;> (try simp only [h]))
        | (refine onPick_split (fun h => ?_) (fun h => ?_) <;> (try simp only [h])))
    refine onC_i (by simp) (onC_i (by omega) ?_)
    rw [show (dl iD out).app (.cons (.int .i64 g) .nil) = dl iD (out ++ [g]) from app_one (f := iD) out _]
    exact ⟨_, rfl⟩
end Go.Pe.Tryd
