/- Records of a log: what a valid one is, walked; What a valid record is, and a record among the laws' helpers, walked; The lines of a log as plain lists of bytes: what a line is, how it is read, that there is one way alone; Numbers as decimal text: the library's, and the reference's own road to it; The law of EncodeRecord, walked; Appeals among the laws' helpers: sizes, copies, equality; walked; Lists of appeals among the laws' helpers: sizes and copies; walked; Copies of lists of appeals, walked; Small tests of appeals, walked; Rising lists, walked; Is an appeal valid? walked; Valid appeals, walked; Valid lists of appeals, walked; Offices among the laws' helpers: sizes, copies, equality; walked; Entries of a ledger: strings.Trim, walked; what an entry is; Valid offices, walked; Is it an office? walked, and the law; Marks on lists of numbers, walked; Marks as text: on lists of texts, walked; Marks on offices, walked; The cases of an office of which something is so; those that are due, blocked, held; walked; Roots of ledgers: hashes, rounds (the reference's), walked -/
import Derived.Test.YthndnmhihndiaaaDoorPeD
import Derived.Test.YthndnmhihndiaaaDoorMc1
import Derived.Test.YthndnmhihndiaaaDoorMc2
import Derived.Test.YthndnmhihndiaaaDoorShelf
import Derived.Lib.ItoaNum
import Derived.Lib.IndexMore
import Derived.Lib.ItoaLen
import Derived.Lib.AsciiSet
set_option maxRecDepth 100000
set_option maxHeartbeats 4000000
set_option linter.all false
namespace Go.Pe.Tryd
open Go.Proofs.Tryd
def within (n a b : Int) : Bool := decide (a ≤ n) && decide (n ≤ b)
theorem within_fn (n a b : Int) : Fn prog 33 [.int .i64 n, .int .i64 a, .int .i64 b] (fun rs => rs = [.bool (within n a b)]) := by
  refine Fn_of' (fn := f33) (by exact func33) c33 r33 (n := 15) (by rfl) (rv := [.tmp 6]) (by rfl) (by simp) ?_
  unfold m33
  simp only [↓wA, ↓wC, wB, frzBE, frzBS, Nat.reduceEqDiff, Nat.reduceAdd, Nat.reduceSub, reduceIte, reduceCtorEq, Nat.reduceBEq, Nat.reduceLT, decide_true]
  refine execG_split (fun h => ?_) (fun h => ?_) <;> simp only [h, ↓wA, ↓wC, wB, frzBE, frzBS, Nat.reduceEqDiff, Nat.reduceAdd, Nat.reduceSub, reduceIte, reduceCtorEq, Nat.reduceBEq, Nat.reduceLT, decide_true]
  all_goals simp [within, h]
theorem l1In_fn (n a b : Int) : Fn prog 61 [.int .i64 n, .int .i64 a, .int .i64 b] (fun rs => rs = [.bool (within n a b)]) := by
  refine Fn_of' (fn := f61) (by exact func61) c61 r61 (n := 15) (by rfl) (rv := [.tmp 6]) (by rfl) (by simp) ?_
  unfold m61
  simp only [↓wA, ↓wC, wB, frzBE, frzBS, Nat.reduceEqDiff, Nat.reduceAdd, Nat.reduceSub, reduceIte, reduceCtorEq, Nat.reduceBEq, Nat.reduceLT, decide_true]
  refine execG_split (fun h => ?_) (fun h => ?_) <;> simp only [h, ↓wA, ↓wC, wB, frzBE, frzBS, Nat.reduceEqDiff, Nat.reduceAdd, Nat.reduceSub, reduceIte, reduceCtorEq, Nat.reduceBEq, Nat.reduceLT, decide_true]
  all_goals simp [within, h]
theorem maxLen_eq : maxLen = 9223372036854775807 := rfl
end Go.Pe.Tryd

set_option maxRecDepth 100000
set_option maxHeartbeats 4000000
set_option linter.all false
namespace Go.Pe.Tryd
open Go.Proofs.Tryd
end Go.Pe.Tryd

set_option maxRecDepth 100000
set_option maxHeartbeats 4000000
set_option linter.all false
namespace Go.Pe.Tryd
def after (x : UInt8) (s : List UInt8) : List UInt8 := (s.dropWhile (· != x)).drop 1
/-- the checksum. -/
def ckf (h : Int) (b : UInt8) : Int := (41 * h + (b.toNat : Int) + 1) % 999979
def ck (s : List UInt8) : Int := s.foldl ckf 7
theorem ck_bd (s : List UInt8) : 0 ≤ ck s ∧ ck s < 999979 := by
  unfold ck
  have : ∀ (s : List UInt8) (h : Int), 0 ≤ h ∧ h < 999979 → 0 ≤ s.foldl ckf h ∧ s.foldl ckf h < 999979 := by
    intro s
    induction s with
    | nil => intro h hh; exact hh
    | cons b s ih =>
      intro h hh
      refine ih _ ?_
      unfold ckf
      omega
  exact this s 7 (by omega)
def body (k : Int) (c r : List UInt8) : List UInt8 := Lib.itoa k ++ 32 :: (c ++ 64 :: r)
end Go.Pe.Tryd

set_option maxRecDepth 100000
set_option maxHeartbeats 4000000
set_option linter.all false
namespace Go.Pe.Tryd
open Go.Proofs.Tryd Go.Sort
theorem Ext.grow {w : World} (k : Nat) (os : Array Obj) : Ext w (Go.Sort.grow (w.drewN k) os) := by
  refine ⟨rfl, rfl, rfl, ?_, ?_⟩
  · simp [Go.Sort.grow, World.drewN]
  · intro b hb
    simp only [Go.Sort.grow]
    exact Array.getElem?_append_left (xs := w.heap) (ys := os) hb
theorem itoa_fn (n : Int) (h : InR .i64 n) : Fn prog 66 [.int .i64 n] (fun rs => rs = [.str (Lib.itoa n)]) :=
  Fn_lib rfl rfl fun w hF => (Go.Proofs.Tryd.strconv_Itoa n (by simp only [InR] at h; omega) (by simp only [InR] at h; omega) w (tabOf hF)).mono (by
    rintro e w' ⟨rfl, k, os, rfl⟩
    exact ⟨rfl, Ext.grow k os⟩)
theorem decimal_fn (n : Int) (h : InR .i64 n) : Fn prog 46 [.int .i64 n] (fun rs => rs = [.str (Lib.itoa n)]) := by
  refine Fn_of' (fn := f46) (by exact func46) c46 r46 (n := 5) (by rfl) (rv := [.tmp 2]) (by rfl) (by simp) ?_
  unfold m46
  repeat' (first
      | (simp only [↓wA, ↓wC, wB, frzBE, frzBS, Nat.reduceEqDiff, Nat.reduceAdd, Nat.reduceSub, reduceIte, reduceCtorEq, Nat.reduceBEq, Nat.reduceLT, decide_true])
      | (refine call_det (itoa_fn n h) rfl rfl ?_)
      | (refine callP_det (itoa_fn n h) rfl rfl ?_)
      | (refine execG_split (fun h => ?_) (fun h => ?_) <;> simp only [h])
      | (refine execC_split (fun h => ?_) (fun h => ?_) <;> (try simp only [h]))
      | (refine onPick_split (fun h => ?_) (fun h => ?_) <;> (try simp only [h])))
/-- the digit of a number below ten, cut from the ten digits. -/
theorem digit_cut : ∀ d : Fin 10, ((([48, 49, 50, 51, 52, 53, 54, 55, 56, 57] : List UInt8).take (d.val + 1)).drop d.val) = [UInt8.ofNat (48 + d.val)] := by decide
/-- numbers as text, by the reference's own road. -/
theorem decDigits_small {u : Nat} (h : u < 10) : Lib.decDigits u = [UInt8.ofNat (48 + u)] := by
  rw [Lib.decDigits, dif_pos h]
theorem decDigits_more {u : Nat} (h : ¬ u < 10) : Lib.decDigits u = Lib.decDigits (u / 10) ++ [UInt8.ofNat (48 + u % 10)] := by
  rw [Lib.decDigits, dif_neg h]
theorem cut_digit (d : Nat) (h : d < 10) : ((([48, 49, 50, 51, 52, 53, 54, 55, 56, 57] : List UInt8).take (d + 1)).drop d) = [UInt8.ofNat (48 + d)] := digit_cut ⟨d, h⟩
theorem itoa_nat (u : Nat) : Lib.itoa (u : Int) = Lib.decDigits u := by
  unfold Lib.itoa
  rw [if_neg (by omega)]
  simp
theorem decDigits_le (u : Nat) (h : u ≤ 9223372036854775807) : (Lib.decDigits u).length ≤ 21 := by
  rw [← itoa_nat]
  exact Lib.itoa_length_le (u : Int) (by omega) (by omega)
theorem itoa_le (n : Int) (h : InR .i64 n) : (Lib.itoa n).length ≤ 21 := by
  simp only [InR] at h
  exact Lib.itoa_length_le n (by omega) (by omega)
theorem l1Num_nat : ∀ (u : Nat), u ≤ 9223372036854775807 → Fn prog 47 [.int .i64 (u : Int)] (fun rs => rs = [.str (Lib.decDigits u)]) := by
  intro u
  induction u using Nat.strongRecOn with
  | _ u ih =>
    intro hu
    have h0 : decide ((u : Int) < 0) = false := decide_eq_false (by omega)
    refine Fn_of' (fn := f47) (by exact func47) c47 r47 (n := 25) (by rfl) (rv := [.tmp 2]) (by rfl) (by simp) ?_
    unfold m47
    try simp only [h0, ↓wA, ↓wC, wB, frzBE, frzBS, Nat.reduceEqDiff, Nat.reduceAdd, Nat.reduceSub, reduceIte, reduceCtorEq, Nat.reduceBEq, Nat.reduceLT, decide_true]
    by_cases h : u < 10
    · have hd : decide ((u : Int) < 10) = true := decide_eq_true (by omega)
      have hp : (0 : Int) ≤ (u : Int) := by omega
      try simp only [hd, ↓wA, ↓wC, wB, frzBE, frzBS, Nat.reduceEqDiff, Nat.reduceAdd, Nat.reduceSub, reduceIte, reduceCtorEq, Nat.reduceBEq, Nat.reduceLT, decide_true]
      refine onI_bare (by simp only [InR]; omega) ?_
      try simp only [hd, hp, ↓wA, ↓wC, wB, frzBE, frzBS, Nat.reduceEqDiff, Nat.reduceAdd, Nat.reduceSub, reduceIte, reduceCtorEq, Nat.reduceBEq, Nat.reduceLT, decide_true]
      refine onC_i ⟨by omega, by omega⟩ ?_
      rw [show ((u : Int) + 1).toNat = u + 1 by omega, Int.toNat_natCast, cut_digit u h, decDigits_small h]
    · have hd : decide ((u : Int) < 10) = false := decide_eq_false (by omega)
      have hq : ((u : Int)).tdiv 10 = ((u / 10 : Nat) : Int) := by rw [Int.tdiv_eq_ediv_of_nonneg (by omega)]; omega
      have hr : ((u : Int)).tmod 10 = ((u % 10 : Nat) : Int) := by rw [Int.tmod_eq_emod_of_nonneg (by omega)]; omega
      try simp only [hd, hq, hr, ↓wA, ↓wC, wB, frzBE, frzBS, Nat.reduceEqDiff, Nat.reduceAdd, Nat.reduceSub, reduceIte, reduceCtorEq, Nat.reduceBEq, Nat.reduceLT, decide_true]
      refine onC_i (by decide) ?_
      refine onI_bare (by simp only [InR]; omega) ?_
      refine callP_det (ih (u / 10) (by omega) (by omega)) rfl rfl ?_
      try simp only [hr, ↓wA, ↓wC, wB, frzBE, frzBS, Nat.reduceEqDiff, Nat.reduceAdd, Nat.reduceSub, reduceIte, reduceCtorEq, Nat.reduceBEq, Nat.reduceLT, decide_true]
      refine onC_i (by decide) ?_
      refine onC_i (by decide) ?_
      refine onI_bare (by simp only [InR]; omega) ?_
      have hp : (0 : Int) ≤ ((u % 10 : Nat) : Int) := by omega
      try simp only [hp, ↓wA, ↓wC, wB, frzBE, frzBS, Nat.reduceEqDiff, Nat.reduceAdd, Nat.reduceSub, reduceIte, reduceCtorEq, Nat.reduceBEq, Nat.reduceLT, decide_true]
      refine onC_i ⟨by omega, by omega⟩ ?_
      rw [show (((u % 10 : Nat) : Int) + 1).toNat = u % 10 + 1 by omega, Int.toNat_natCast, cut_digit (u % 10) (by omega)]
      try simp only [↓wA, ↓wC, wB, frzBE, frzBS, Nat.reduceEqDiff, Nat.reduceAdd, Nat.reduceSub, reduceIte, reduceCtorEq, Nat.reduceBEq, Nat.reduceLT, decide_true]
      refine onC_i (by have := decDigits_le (u / 10) (by omega); omega) ?_
      rw [decDigits_more h]
theorem l1Num_fn (n : Int) (h0 : 0 ≤ n) (h : InR .i64 n) : Fn prog 47 [.int .i64 n] (fun rs => rs = [.str (Lib.itoa n)]) := by
  obtain ⟨u, rfl⟩ := Int.eq_ofNat_of_zero_le h0
  rw [itoa_nat]
  exact l1Num_nat u (by simp only [InR] at h; omega)
end Go.Pe.Tryd

set_option maxRecDepth 100000
set_option maxHeartbeats 4000000
set_option linter.all false
namespace Go.Pe.Tryd
open Go.Proofs.Tryd Go.Sort
theorem checksum_fn (s : List UInt8) (hl : s.length ≤ maxLen) : Fn prog 134 [.str s] (fun rs => rs = [.int .i64 (ck s)]) := by
  rw [maxLen_eq] at hl
  refine Fn_of' (fn := f134) (by exact func134) c134 r134 (n := 21) (by rfl) (rv := [.tmp 2]) (by rfl) (by simp) ?_
  unfold m134
  simp only [↓wA, ↓wC, wB, frzBE, frzBS, Nat.reduceEqDiff, Nat.reduceAdd, Nat.reduceSub, reduceIte, reduceCtorEq, Nat.reduceBEq, Nat.reduceLT, decide_true]
  refine exec_loop (fun i : Nat => ⟨[(0, .d (.str s)), (3, .d (.int .i64 (ck (s.take i)))), (6, .d (.int .i64 s.length)), (7, .d (.int .i64 i))], []⟩)
    (fun i => i ≤ s.length) (fun i => s.length - i) 0 (weak_of [] rfl ⟨⟨rfl, rfl⟩, ⟨rfl, rfl⟩, ⟨rfl, rfl⟩, ⟨rfl, rfl⟩, trivial⟩) (Nat.zero_le _) ?_
  rintro i hi
  by_cases hlt : i < s.length
  · obtain ⟨b, hb⟩ := get_lt hlt
    have hd : decide ((i : Int) < (s.length : Int)) = true := decide_eq_true (by omega)
    have h0 : (0 : Int) ≤ (i : Int) := by omega
    have hbl : (b.toNat : Int) < 256 := by have := b.toNat_lt; omega
    have hck := ck_bd (s.take i)
    have hne : decide ((999979 : Int) = 0) = false := by decide
    have hstep : ck (s.take (i + 1)) = (41 * ck (s.take i) + b.toNat + 1) % 999979 := by
      have hi := lt_of_get hb
      rw [List.take_succ_eq_append_getElem hi]
      have : s[i] = b := by rw [List.getElem?_eq_getElem hi] at hb; injection hb
      unfold ck
      rw [List.foldl_append, this]; rfl
    have htm : (41 * ck (s.take i) + b.toNat + 1).tmod 999979 = ck (s.take (i + 1)) := by rw [hstep, Int.tmod_eq_emod_of_nonneg (by omega)]
    have h99 : (999979 : Int) ≠ 0 := by decide
    repeat' (first
        | (simp only [hd, h0, hb, Int.toNat_natCast, onC_true, htm, h99, ne_eq, not_false_eq_true, ↓wA, ↓wC, wB, frzBE, frzBS, Nat.reduceEqDiff, Nat.reduceAdd, Nat.reduceSub, reduceIte, reduceCtorEq, Nat.reduceBEq, Nat.reduceLT, decide_true])
        | (refine onC_i (by decide) ?_)
        | (refine onI_bare (by simp only [InR]; omega) ?_)
        | (refine execG_split (fun h => ?_) (fun h => ?_) <;> simp only [h])
        | (refine execC_split (fun h => ?_) (fun h => ?_) <;> (try simp only [h]))
        | (refine onPick_split (fun h => ?_) (fun h => ?_) <;> (try simp only [h])))
    all_goals exact ⟨i + 1, weak_of [] rfl ⟨⟨rfl, rfl⟩, ⟨rfl, rfl⟩, ⟨rfl, rfl⟩, ⟨rfl, rfl⟩, trivial⟩, by omega, by omega⟩
  · have hd : decide ((i : Int) < (s.length : Int)) = false := decide_eq_false (by omega)
    simp only [hd, ↓wA, ↓wC, wB, frzBE, frzBS, Nat.reduceEqDiff, Nat.reduceAdd, Nat.reduceSub, reduceIte, reduceCtorEq, Nat.reduceBEq, Nat.reduceLT, decide_true]
    rw [List.take_of_length_le (by omega)]
theorem l1Sum_fn (s : List UInt8) (hl : s.length ≤ maxLen) : Fn prog 120 [.str s] (fun rs => rs = [.int .i64 (ck s)]) := by
  rw [maxLen_eq] at hl
  refine Fn_of' (fn := f120) (by exact func120) c120 r120 (n := 21) (by rfl) (rv := [.tmp 2]) (by rfl) (by simp) ?_
  unfold m120
  simp only [↓wA, ↓wC, wB, frzBE, frzBS, Nat.reduceEqDiff, Nat.reduceAdd, Nat.reduceSub, reduceIte, reduceCtorEq, Nat.reduceBEq, Nat.reduceLT, decide_true]
  refine exec_loop (fun i : Nat => ⟨[(0, .d (.str s)), (3, .d (.int .i64 (ck (s.take i)))), (4, .d (.int .i64 i))], []⟩)
    (fun i => i ≤ s.length) (fun i => s.length - i) 0 (weak_of [] rfl ⟨⟨rfl, rfl⟩, ⟨rfl, rfl⟩, ⟨rfl, rfl⟩, trivial⟩) (Nat.zero_le _) ?_
  rintro i hi
  by_cases hlt : i < s.length
  · obtain ⟨b, hb⟩ := get_lt hlt
    have hd : decide ((i : Int) < (s.length : Int)) = true := decide_eq_true (by omega)
    have h0 : (0 : Int) ≤ (i : Int) := by omega
    have hbl : (b.toNat : Int) < 256 := by have := b.toNat_lt; omega
    have hck := ck_bd (s.take i)
    have hstep : ck (s.take (i + 1)) = (41 * ck (s.take i) + b.toNat + 1) % 999979 := by
      have hi := lt_of_get hb
      rw [List.take_succ_eq_append_getElem hi]
      have : s[i] = b := by rw [List.getElem?_eq_getElem hi] at hb; injection hb
      unfold ck
      rw [List.foldl_append, this]; rfl
    have htm : (41 * ck (s.take i) + b.toNat + 1).tmod 999979 = ck (s.take (i + 1)) := by rw [hstep, Int.tmod_eq_emod_of_nonneg (by omega)]
    have h99 : (999979 : Int) ≠ 0 := by decide
    repeat' (first
        | (simp only [hd, h0, hb, Int.toNat_natCast, onC_true, htm, h99, ne_eq, not_false_eq_true, ↓wA, ↓wC, wB, frzBE, frzBS, Nat.reduceEqDiff, Nat.reduceAdd, Nat.reduceSub, reduceIte, reduceCtorEq, Nat.reduceBEq, Nat.reduceLT, decide_true])
        | (refine onC_i (by decide) ?_)
        | (refine onI_bare (by simp only [InR]; omega) ?_)
        | (refine execG_split (fun h => ?_) (fun h => ?_) <;> simp only [h])
        | (refine execC_split (fun h => ?_) (fun h => ?_) <;> (try simp only [h]))
        | (refine onPick_split (fun h => ?_) (fun h => ?_) <;> (try simp only [h])))
    all_goals exact ⟨i + 1, weak_of [] rfl ⟨⟨rfl, rfl⟩, ⟨rfl, rfl⟩, ⟨rfl, rfl⟩, trivial⟩, by omega, by omega⟩
  · have hd : decide ((i : Int) < (s.length : Int)) = false := decide_eq_false (by omega)
    simp only [hd, ↓wA, ↓wC, wB, frzBE, frzBS, Nat.reduceEqDiff, Nat.reduceAdd, Nat.reduceSub, reduceIte, reduceCtorEq, Nat.reduceBEq, Nat.reduceLT, decide_true]
    rw [List.take_of_length_le (by omega)]
end Go.Pe.Tryd

set_option maxRecDepth 100000
set_option maxHeartbeats 4000000
set_option linter.all false
namespace Go.Pe.Tryd
open Go.Proofs.Tryd
structure App where
  i : Int
  q : Int
  d : Int
  a : List Int
  h : List Int
  s : Int
def App.d' (x : App) : D := .st (.cons (.int .i64 x.i) (.cons (.int .i64 x.q) (.cons (.int .i64 x.d) (.cons (.sl false 1 (dl iD x.a)) (.cons (.sl false 1 (dl iD x.h)) (.cons (.int .i64 x.s) .nil))))))
def App.ok0 (x : App) : Prop := x.a.length ≤ 1048576 ∧ x.h.length ≤ 1048576
theorem ints_noOwn (v : List Int) : (dl iD v).noOwn = true := dl_noOwn iD_noOwn v
theorem ints_unown (v : List Int) : (dl iD v).unown = dl iD v := dl_unown iD_unown v
theorem szIntS_fn (v : List Int) (n : Int) (h0 : 0 ≤ n) (h1 : n ≤ 1048576) (hm : v.length ≤ maxLen) : Fn prog 91 [.sl false 1 (dl iD v), .int .i64 n] (fun rs => rs = [.int .i64 (if n - v.length < 0 then -1 else n - v.length)]) := by
  have hm' : maxLen = 9223372036854775807 := by rfl
  refine Fn_of' (fn := f91) (by exact func91) c91 r91 (n := 12) (by rfl) (rv := [.tmp 4]) (by rfl) (by simp) ?_
  unfold m91
  simp only [dl_len, ↓wA, ↓wC, wB, frzBE, frzBS, Nat.reduceEqDiff, Nat.reduceAdd, Nat.reduceSub, reduceIte, reduceCtorEq, Nat.reduceBEq, Nat.reduceLT, decide_true]
  refine onI_bare (by simp only [InR]; omega) ?_
  simp only [↓wA, ↓wC, wB, frzBE, frzBS, Nat.reduceEqDiff, Nat.reduceAdd, Nat.reduceSub, reduceIte, reduceCtorEq, Nat.reduceBEq, Nat.reduceLT, decide_true]
  refine execC_split (fun h => ?_) (fun h => ?_) <;> simp only [↓wA, ↓wC, wB, frzBE, frzBS, Nat.reduceEqDiff, Nat.reduceAdd, Nat.reduceSub, reduceIte, reduceCtorEq, Nat.reduceBEq, Nat.reduceLT, decide_true]
  · rw [if_pos (by simpa using h)]
  · rw [if_neg (by simpa using h)]
theorem eqIntS_refl (v : List Int) (hlen : v.length ≤ 1048576) : Fn prog 109 [.sl false 1 (dl iD v), .sl false 1 (dl iD v)] (fun rs => rs = [.bool true]) := by
  refine Fn_of' (fn := f109) (by exact func109) c109 r109 (n := 26) (by rfl) (rv := [.tmp 4]) (by rfl) (by simp) ?_
  unfold m109
  simp only [↓wA, ↓wC, wB, frzBE, frzBS, Nat.reduceEqDiff, Nat.reduceAdd, Nat.reduceSub, reduceIte, reduceCtorEq, Nat.reduceBEq, Nat.reduceLT, decide_true]
  refine exec_loop (fun i : Nat => ⟨[(0, .d (.sl false 1 (dl iD v))), (1, .d (.sl false 1 (dl iD v))), (5, .d (.int .i64 i))], []⟩)
    (fun i => i ≤ v.length) (fun i => v.length - i) 0 (weak_of [] rfl ⟨⟨rfl, rfl⟩, ⟨rfl, rfl⟩, ⟨rfl, rfl⟩, trivial⟩) (Nat.zero_le _) ?_
  intro i hi
  by_cases hlt : i < v.length
  · obtain ⟨r, hr⟩ := get_lt hlt
    have hd : decide ((i : Int) < (v.length : Int)) = true := decide_eq_true (by omega)
    have h0 : (0 : Int) ≤ (i : Int) := by omega
    repeat' (first
        | (simp only [dl_len, dl_nth, hd, Int.toNat_natCast, hr, Option.map_some, h0, onC_true, iD, ↓wA, ↓wC, wB, frzBE, frzBS, Nat.reduceEqDiff, Nat.reduceAdd, Nat.reduceSub, reduceIte, reduceCtorEq, Nat.reduceBEq, Nat.reduceLT, decide_true])
        | (refine execG_split (fun h => ?_) (fun h => ?_) <;> simp only [h])
        | (refine execC_split (fun h => ?_) (fun h => ?_) <;> (try simp only [h]))
        | (refine onPick_split (fun h => ?_) (fun h => ?_) <;> (try simp only [h])))
    refine onI_bare (by simp only [InR]; omega) ?_
    exact ⟨i + 1, weak_of [] rfl ⟨⟨rfl, rfl⟩, ⟨rfl, rfl⟩, ⟨rfl, rfl⟩, trivial⟩, by omega, by omega⟩
  · have hd : decide ((i : Int) < (v.length : Int)) = false := decide_eq_false (by omega)
    simp only [dl_len, hd, ↓wA, ↓wC, wB, frzBE, frzBS, Nat.reduceEqDiff, Nat.reduceAdd, Nat.reduceSub, reduceIte, reduceCtorEq, Nat.reduceBEq, Nat.reduceLT, decide_true]
theorem toIntS_own (v : List Int) (hlen : v.length ≤ 1048576) : Fn prog 96 [.sl false 1 (dl iD v)] (fun rs => rs = [.sl true 1 (dl iD v)]) := by
  refine Fn_of' (fn := f96) (by exact func96) c96 r96 (n := 22) (by rfl) (rv := [.tmp 2]) (by rfl) (by simp) ?_
  unfold m96
  simp only [↓wA, ↓wC, wB, frzBE, frzBS, Nat.reduceEqDiff, Nat.reduceAdd, Nat.reduceSub, reduceIte, reduceCtorEq, Nat.reduceBEq, Nat.reduceLT, decide_true]
  simp only [dl_len, ↓wA, ↓wC, wB, frzBE, frzBS, Nat.reduceEqDiff, Nat.reduceAdd, Nat.reduceSub, reduceIte, reduceCtorEq, Nat.reduceBEq, Nat.reduceLT, decide_true]
  refine onC_i (by omega) ?_
  have hz : ofL (List.replicate (↑v.length : Int).toNat (D.int .i64 0)) = dl iD (v.take 0 ++ List.replicate (v.length - 0) 0) := by
    rw [show D.int .i64 0 = iD 0 from rfl, dl_replicate]; simp
  rw [hz]
  refine exec_loop (fun i : Nat => ⟨[(0, .d (.sl false 1 (dl iD v))), (3, .own 0), (4, .d (.int .i64 i))], [.val (.sl true 1 (dl iD (v.take i ++ List.replicate (v.length - i) 0)))]⟩)
    (fun i => i ≤ v.length) (fun i => v.length - i) 0 (weak_of [] rfl ⟨⟨rfl, rfl⟩, ⟨rfl, rfl⟩, ⟨rfl, rfl⟩, trivial⟩) (Nat.zero_le _) ?_
  intro i hi
  by_cases hlt : i < v.length
  · obtain ⟨r, hr⟩ := get_lt hlt
    have hd : decide ((i : Int) < (v.length : Int)) = true := by simp; omega
    have h0 : (0 : Int) ≤ (i : Int) := by omega
    have hn : (v.take i ++ List.replicate (v.length - i) (0 : Int))[i]? = some 0 := by
      rw [List.getElem?_append_right (by simp; omega), List.length_take, Nat.min_eq_left (by omega), Nat.sub_self, show v.length - i = (v.length - (i + 1)) + 1 by omega]; rfl
    repeat' (first
        | (simp only [dl_len, dl_nth, hd, h0, Int.toNat_natCast, hr, hn, Option.map_some, onC_true, iD, ↓wA, ↓wC, wB, frzBE, frzBS, Nat.reduceEqDiff, Nat.reduceAdd, Nat.reduceSub, reduceIte, reduceCtorEq, Nat.reduceBEq, Nat.reduceLT, decide_true])
        | (refine onI_bare (by simp only [InR]; omega) ?_)
        | (refine execG_split (fun h => ?_) (fun h => ?_) <;> simp only [h])
        | (refine execC_split (fun h => ?_) (fun h => ?_) <;> (try simp only [h]))
        | (refine onPick_split (fun h => ?_) (fun h => ?_) <;> (try simp only [h])))
    have hfs : (dl iD (v.take i ++ List.replicate (v.length - i) (0 : Int))).setN i (D.int .i64 r) = dl iD (v.take (i + 1) ++ List.replicate (v.length - (i + 1)) 0) := by
      rw [show D.int .i64 r = iD r from rfl, dl_setN, fill_step hr]
    rw [hfs]
    exact ⟨i + 1, weak_of [] rfl ⟨⟨rfl, rfl⟩, ⟨rfl, rfl⟩, ⟨rfl, rfl⟩, trivial⟩, by omega, by omega⟩
  · have hd : decide ((i : Int) < (v.length : Int)) = false := by simp; omega
    have e : i = v.length := by omega
    simp only [dl_len, hd, ↓wA, ↓wC, wB, frzBE, frzBS, Nat.reduceEqDiff, Nat.reduceAdd, Nat.reduceSub, reduceIte, reduceCtorEq, Nat.reduceBEq, Nat.reduceLT, decide_true]
    simp [e]
theorem App.noOwn (x : App) : x.d'.noOwn = true := by simp [App.d', D.noOwn, ints_noOwn]
theorem App.unown (x : App) : x.d'.unown = x.d' := by simp [App.d', D.unown, ints_unown]
end Go.Pe.Tryd

set_option maxRecDepth 100000
set_option maxHeartbeats 4000000
set_option linter.all false
namespace Go.Pe.Tryd
open Go.Proofs.Tryd
end Go.Pe.Tryd

set_option maxRecDepth 100000
set_option maxHeartbeats 4000000
set_option linter.all false
namespace Go.Pe.Tryd
open Go.Proofs.Tryd
end Go.Pe.Tryd

set_option maxRecDepth 100000
set_option maxHeartbeats 4000000
set_option linter.all false
namespace Go.Pe.Tryd
open Go.Proofs.Tryd
theorem isDay_fn (n : Int) : Fn prog 74 [.int .i64 n] (fun rs => rs = [.bool (within n 0 20000)]) := by
  refine Fn_of' (fn := f74) (by exact func74) c74 r74 (n := 5) (by rfl) (rv := [.tmp 2]) (by rfl) (by simp) ?_
  unfold m74
  repeat' (first
      | (simp only [↓wA, ↓wC, wB, frzBE, frzBS, Nat.reduceEqDiff, Nat.reduceAdd, Nat.reduceSub, reduceIte, reduceCtorEq, Nat.reduceBEq, Nat.reduceLT, decide_true])
      | (refine call_det (within_fn _ _ _) rfl rfl ?_)
      | (refine callP_det (within_fn _ _ _) rfl rfl ?_)
      | (refine execG_split (fun h => ?_) (fun h => ?_) <;> simp only [h])
      | (refine execC_split (fun h => ?_) (fun h => ?_) <;> (try simp only [h]))
      | (refine onPick_split (fun h => ?_) (fun h => ?_) <;> (try simp only [h])))
theorem l2Day_fn (n : Int) : Fn prog 68 [.int .i64 n] (fun rs => rs = [.bool (within n 0 20000)]) := by
  refine Fn_of' (fn := f68) (by exact func68) c68 r68 (n := 5) (by rfl) (rv := [.tmp 2]) (by rfl) (by simp) ?_
  unfold m68
  repeat' (first
      | (simp only [↓wA, ↓wC, wB, frzBE, frzBS, Nat.reduceEqDiff, Nat.reduceAdd, Nat.reduceSub, reduceIte, reduceCtorEq, Nat.reduceBEq, Nat.reduceLT, decide_true])
      | (refine call_det (l1In_fn _ _ _) rfl rfl ?_)
      | (refine callP_det (l1In_fn _ _ _) rfl rfl ?_)
      | (refine execG_split (fun h => ?_) (fun h => ?_) <;> simp only [h])
      | (refine execC_split (fun h => ?_) (fun h => ?_) <;> (try simp only [h]))
      | (refine onPick_split (fun h => ?_) (fun h => ?_) <;> (try simp only [h])))
end Go.Pe.Tryd

set_option maxRecDepth 100000
set_option maxHeartbeats 4000000
set_option linter.all false
namespace Go.Pe.Tryd
open Go.Proofs.Tryd
/-- a list rises. -/
def rises (v : List Int) : Bool := (List.range (v.length - 1)).all fun j => decide (v.getD j 0 < v.getD (j + 1) 0)
theorem rises_iff (v : List Int) : rises v = true ↔ ∀ j, j + 1 < v.length → v.getD j 0 < v.getD (j + 1) 0 := by
  simp only [rises, List.all_eq_true, List.mem_range, decide_eq_true_eq]
  exact ⟨fun h j hj => h j (by omega), fun h j hj => h j (by omega)⟩
theorem areRising_fn (v : List Int) (hlen : v.length ≤ 1048576) : Fn prog 102 [.sl false 1 (dl iD v)] (fun rs => rs = [.bool (rises v)]) := by
  refine Fn_of' (fn := f102) (by exact func102) c102 r102 (n := 20) (by rfl) (rv := [.tmp 2]) (by rfl) (by simp) ?_
  unfold m102
  simp only [↓wA, ↓wC, wB, frzBE, frzBS, Nat.reduceEqDiff, Nat.reduceAdd, Nat.reduceSub, reduceIte, reduceCtorEq, Nat.reduceBEq, Nat.reduceLT, decide_true]
  refine exec_loop (fun i : Nat => ⟨[(0, .d (.sl false 1 (dl iD v))), (3, .d (.int .i64 (i + 1 : Nat)))], []⟩)
    (fun i => i ≤ v.length ∧ ∀ j, j + 1 < i + 1 → j + 1 < v.length → v.getD j 0 < v.getD (j + 1) 0) (fun i => v.length - i) 0 (weak_of [] rfl ⟨⟨rfl, rfl⟩, ⟨rfl, rfl⟩, trivial⟩) ⟨Nat.zero_le _, fun j h => by omega⟩ ?_
  rintro i ⟨hi, hp⟩
  by_cases hlt : i + 1 < v.length
  · obtain ⟨a, ha⟩ := get_lt (show i < v.length by omega)
    obtain ⟨b, hb⟩ := get_lt hlt
    have hd : decide (((i + 1 : Nat) : Int) < (v.length : Int)) = true := decide_eq_true (by omega)
    have h0 : (0 : Int) ≤ ((i + 1 : Nat) : Int) := by omega
    have h1 : (0 : Int) ≤ ((i + 1 : Nat) : Int) - 1 := by omega
    have ha' : v[(((i + 1 : Nat) : Int) - 1).toNat]? = some a := by rw [show (((i + 1 : Nat) : Int) - 1).toNat = i by omega]; exact ha
    have ga : v.getD i 0 = a := by simp [List.getD, ha]
    have gb : v.getD (i + 1) 0 = b := by simp [List.getD, hb]
    repeat' (first
        | (simp only [dl_len, dl_nth, hd, h0, h1, ha', hb, Int.toNat_natCast, Option.map_some, onC_true, iD, ↓wA, ↓wC, wB, frzBE, frzBS, Nat.reduceEqDiff, Nat.reduceAdd, Nat.reduceSub, reduceIte, reduceCtorEq, Nat.reduceBEq, Nat.reduceLT, decide_true])
        | (refine onI_bare (by simp only [InR]; omega) ?_)
        | (refine execG_split (fun h => ?_) (fun h => ?_) <;> simp only [h])
        | (refine execC_split (fun h => ?_) (fun h => ?_) <;> (try simp only [h]))
        | (refine onPick_split (fun h => ?_) (fun h => ?_) <;> (try simp only [h])))
    · have hr : rises v = false := by
        cases hr : rises v with
        | false => rfl
        | true =>
          have := (rises_iff v).1 hr i hlt
          rw [ga, gb] at this
          simp at h; omega
      rw [hr]
    · refine ⟨i + 1, weak_of [] rfl ⟨⟨rfl, rfl⟩, ⟨rfl, rfl⟩, trivial⟩, ⟨by omega, fun j hj hj2 => ?_⟩, by omega⟩
      by_cases e : j = i
      · subst e
        rw [ga, gb]
        simp at h; omega
      · exact hp j (by omega) hj2
  · have hd : decide (((i + 1 : Nat) : Int) < (v.length : Int)) = false := decide_eq_false (by omega)
    have hr : rises v = true := (rises_iff v).2 fun j hj => hp j (by omega) hj
    simp only [dl_len, hd, ↓wA, ↓wC, wB, frzBE, frzBS, Nat.reduceEqDiff, Nat.reduceAdd, Nat.reduceSub, reduceIte, reduceCtorEq, Nat.reduceBEq, Nat.reduceLT, decide_true]
    rw [hr]
end Go.Pe.Tryd

set_option maxRecDepth 100000
set_option maxHeartbeats 4000000
set_option linter.all false
namespace Go.Pe.Tryd
open Go.Proofs.Tryd
/-- indexFuncI: the first element of which a test holds. -/
theorem indexFuncI_fn (p : Int → Bool) (g : Nat) (c : D) (xs : List Int) (hc : c.caps = true) (he : enterOK prog.P g = true) (hlen : xs.length ≤ 1048576) (hp : ∀ x ∈ xs, Fn prog g (iD x :: c.list) (fun rs => rs = [.bool (p x)])) :
    Fn prog 122 [.sl false 1 (dl iD xs), .clo g c] (fun rs => rs = [.int .i64 (idxOf p xs)]) := by
  refine Fn_of' (fn := f122) (by exact func122) c122 r122 (n := 19) (by rfl) (rv := [.tmp 4]) (by rfl) (by simp) ?_
  unfold m122
  simp only [dl_len, ↓wA, ↓wC, wB, frzBE, frzBS, Nat.reduceEqDiff, Nat.reduceAdd, Nat.reduceSub, reduceIte, reduceCtorEq, Nat.reduceBEq, Nat.reduceLT, decide_true]
  refine exec_range xs.length (fun i : Nat => ⟨[(0, .d (.sl false 1 (dl iD xs))), (1, .d (.clo g c)), (7, .d (.int .i64 xs.length)), (8, .d (.int .i64 i))], []⟩) (fun i => ∀ j r, j < i → xs[j]? = some r → p r = false) (weak_of _ rfl ⟨⟨rfl, rfl⟩, ⟨rfl, rfl⟩, ⟨rfl, rfl⟩, ⟨rfl, rfl⟩, trivial⟩) (fun j r hj => by omega) ?_ ?_
  · intro i hlt hinv hd h0
    obtain ⟨r, hr⟩ := get_lt hlt
    have hcl := hp r (List.mem_of_getElem? hr)
    simp only [hd, h0, dl_nth, Int.toNat_natCast, hr, Option.map_some, onC_true, ↓rd_iD, ↓wA, ↓wC, wB, frzBE, frzBS, Nat.reduceEqDiff, Nat.reduceAdd, Nat.reduceSub, reduceIte, reduceCtorEq, Nat.reduceBEq, Nat.reduceLT, decide_true]
    refine callW_det (ds := [iD r]) hcl he hc (by simp [argsD, argD, valOf, iD]) rfl ?_
    cases hpr : p r with
    | true =>
      simp only [↓wA, ↓wC, wB, frzBE, frzBS, Nat.reduceEqDiff, Nat.reduceAdd, Nat.reduceSub, reduceIte, reduceCtorEq, Nat.reduceBEq, Nat.reduceLT, decide_true]
      rw [idxOf_hit hr hpr hinv]
    | false =>
      simp only [↓wA, ↓wC, wB, frzBE, frzBS, Nat.reduceEqDiff, Nat.reduceAdd, Nat.reduceSub, reduceIte, reduceCtorEq, Nat.reduceBEq, Nat.reduceLT, decide_true]
      refine onI_bare (by simp only [InR]; omega) ?_
      refine next_range (weak_of _ rfl ⟨⟨rfl, rfl⟩, ⟨rfl, rfl⟩, ⟨rfl, rfl⟩, ⟨rfl, rfl⟩, trivial⟩) hlt fun j s hj hs => ?_
      by_cases e : j = i
      · subst e; rw [hr] at hs; injection hs with hs; rw [← hs]; exact hpr
      · exact hinv j s (by omega) hs
  · intro hinv hd
    simp only [hd, ↓wA, ↓wC, wB, frzBE, frzBS, Nat.reduceEqDiff, Nat.reduceAdd, Nat.reduceSub, reduceIte, reduceCtorEq, Nat.reduceBEq, Nat.reduceLT, decide_true]
    rw [idxOf_none fun j r hj => hinv j r (lt_of_get hj) hj]
/-- containsFuncI: is there an element of which a test holds? -/
theorem containsFuncI_fn (p : Int → Bool) (g : Nat) (c : D) (xs : List Int) (hc : c.caps = true) (he : enterOK prog.P g = true) (hlen : xs.length ≤ 1048576) (hp : ∀ x ∈ xs, Fn prog g (iD x :: c.list) (fun rs => rs = [.bool (p x)])) :
    Fn prog 103 [.sl false 1 (dl iD xs), .clo g c] (fun rs => rs = [.bool (xs.any p)]) := by
  refine Fn_of' (fn := f103) (by exact func103) c103 r103 (n := 9) (by rfl) (rv := [.tmp 4]) (by rfl) (by simp) ?_
  unfold m103
  simp only [↓wA, ↓wC, wB, frzBE, frzBS, Nat.reduceEqDiff, Nat.reduceAdd, Nat.reduceSub, reduceIte, reduceCtorEq, Nat.reduceBEq, Nat.reduceLT, decide_true]
  refine call_det (indexFuncI_fn p g c xs hc he hlen hp) rfl rfl ?_
  simp only [idxOf_any, ↓wA, ↓wC, wB, frzBE, frzBS, Nat.reduceEqDiff, Nat.reduceAdd, Nat.reduceSub, reduceIte, reduceCtorEq, Nat.reduceBEq, Nat.reduceLT, decide_true]
end Go.Pe.Tryd

set_option maxRecDepth 100000
set_option maxHeartbeats 4000000
set_option linter.all false
namespace Go.Pe.Tryd
open Go.Proofs.Tryd
theorem any_not {α : Type} (p : α → Bool) (xs : List α) : xs.any (fun x => !p x) = !xs.all p := by
  induction xs with
  | nil => rfl
  | cons a v ih => simp [List.any_cons, List.all_cons, ih]
theorem l1Rising_fn (v : List Int) (a b : Int) (hlen : v.length ≤ 1048576) : Fn prog 93 [.sl false 1 (dl iD v), .int .i64 a, .int .i64 b] (fun rs => rs = [.bool (v.all (fun n => within n a b) && rises v)]) := by
  refine Fn_of' (fn := f93) (by exact func93) c93 r93 (n := 38) (by rfl) (rv := [.tmp 6]) (by rfl) (by simp) ?_
  unfold m93
  simp only [↓wA, ↓wC, wB, frzBE, frzBS, Nat.reduceEqDiff, Nat.reduceAdd, Nat.reduceSub, reduceIte, reduceCtorEq, Nat.reduceBEq, Nat.reduceLT, decide_true]
  refine exec_range v.length (fun i : Nat => ⟨[(0, .d (.sl false 1 (dl iD v))), (1, .d (.int .i64 a)), (2, .d (.int .i64 b)), (7, .d (.int .i64 i))], []⟩) (fun i => (∀ j r, j < i → v[j]? = some r → within r a b = true) ∧ ∀ j, j + 1 < i → v.getD j 0 < v.getD (j + 1) 0) (weak_of _ rfl ⟨⟨rfl, rfl⟩, ⟨rfl, rfl⟩, ⟨rfl, rfl⟩, ⟨rfl, rfl⟩, trivial⟩) ⟨fun j r hj => by omega, fun j hj => by omega⟩ ?_ ?_
  · rintro i hlt ⟨hin, hri⟩ hd h0
    obtain ⟨r, hr⟩ := get_lt hlt
    have gr : v.getD i 0 = r := by simp [List.getD, hr]
    have hc := l1In_fn r a b
    cases hw : within r a b with
    | false =>
      have hres : (v.all (fun n => within n a b) && rises v) = false := by
        have : v.all (fun n => within n a b) = false := List.all_eq_false.2 ⟨r, List.mem_of_getElem? hr, by simp [hw]⟩
        rw [this]; rfl
      rw [hw] at hc
      repeat' (first
          | (simp only [dl_len, dl_nth, hd, h0, Int.toNat_natCast, hr, Option.map_some, ↓rd_iD, onC_true, ↓wA, ↓wC, wB, frzBE, frzBS, Nat.reduceEqDiff, Nat.reduceAdd, Nat.reduceSub, reduceIte, reduceCtorEq, Nat.reduceBEq, Nat.reduceLT, decide_true])
          | (refine call_det (hc) rfl rfl ?_)
          | (refine callP_det (hc) rfl rfl ?_)
          | (refine execG_split (fun h => ?_) (fun h => ?_) <;> simp only [h])
          | (refine execC_split (fun h => ?_) (fun h => ?_) <;> (try simp only [h]))
          | (refine onPick_split (fun h => ?_) (fun h => ?_) <;> (try simp only [h])))
      all_goals rw [hres]
    | true =>
      rw [hw] at hc
      have hin' : ∀ j s, j < i + 1 → v[j]? = some s → within s a b = true := fun j s hj hs => by
        by_cases e : j = i
        · subst e; rw [hr] at hs; injection hs with hs; rw [← hs]; exact hw
        · exact hin j s (by omega) hs
      cases i with
      | zero =>
        have hg : decide ((0 : Int) < ((0 : Nat) : Int)) = false := by decide
        repeat' (first
            | (simp only [dl_len, dl_nth, hd, h0, Int.toNat_natCast, hr, Option.map_some, ↓rd_iD, onC_true, hg, ↓wA, ↓wC, wB, frzBE, frzBS, Nat.reduceEqDiff, Nat.reduceAdd, Nat.reduceSub, reduceIte, reduceCtorEq, Nat.reduceBEq, Nat.reduceLT, decide_true])
            | (refine call_det (hc) rfl rfl ?_)
            | (refine callP_det (hc) rfl rfl ?_)
            | (refine onI_bare (by simp only [InR]; omega) ?_)
            | (refine execG_split (fun h => ?_) (fun h => ?_) <;> simp only [h])
            | (refine execC_split (fun h => ?_) (fun h => ?_) <;> (try simp only [h]))
            | (refine onPick_split (fun h => ?_) (fun h => ?_) <;> (try simp only [h])))
        all_goals exact next_range (weak_of _ rfl ⟨⟨rfl, rfl⟩, ⟨rfl, rfl⟩, ⟨rfl, rfl⟩, ⟨rfl, rfl⟩, trivial⟩) hlt ⟨hin', fun j hj => by omega⟩
      | succ k =>
        obtain ⟨y, hy⟩ := get_lt (show k < v.length by omega)
        have gy : v.getD k 0 = y := by simp [List.getD, hy]
        have hg : decide ((0 : Int) < ((k + 1 : Nat) : Int)) = true := decide_eq_true (by omega)
        have h1 : (0 : Int) ≤ ((k + 1 : Nat) : Int) - 1 := by omega
        have hy' : v[(((k + 1 : Nat) : Int) - 1).toNat]? = some y := by rw [show (((k + 1 : Nat) : Int) - 1).toNat = k by omega]; exact hy
        by_cases hl : y < r
        · have hq : decide (r ≤ y) = false := decide_eq_false (by omega)
          repeat' (first
              | (simp only [dl_len, dl_nth, hd, h0, h1, Int.toNat_natCast, hr, hy', Option.map_some, ↓rd_iD, onC_true, hg, hq, ↓wA, ↓wC, wB, frzBE, frzBS, Nat.reduceEqDiff, Nat.reduceAdd, Nat.reduceSub, reduceIte, reduceCtorEq, Nat.reduceBEq, Nat.reduceLT, decide_true])
              | (refine call_det (hc) rfl rfl ?_)
              | (refine callP_det (hc) rfl rfl ?_)
              | (refine onI_bare (by simp only [InR]; omega) ?_)
              | (refine execG_split (fun h => ?_) (fun h => ?_) <;> simp only [h])
              | (refine execC_split (fun h => ?_) (fun h => ?_) <;> (try simp only [h]))
              | (refine onPick_split (fun h => ?_) (fun h => ?_) <;> (try simp only [h])))
          all_goals refine next_range (weak_of _ rfl ⟨⟨rfl, rfl⟩, ⟨rfl, rfl⟩, ⟨rfl, rfl⟩, ⟨rfl, rfl⟩, trivial⟩) hlt ⟨hin', fun j hj => ?_⟩
          by_cases e : j = k
          · subst e; rw [gy, gr]; exact hl
          · exact hri j (by omega)
        · have hq : decide (r ≤ y) = true := decide_eq_true (by omega)
          have hres : (v.all (fun n => within n a b) && rises v) = false := by
            have : rises v = false := by
              cases h : rises v with
              | false => rfl
              | true =>
                have := (rises_iff v).1 h k hlt
                rw [gy, gr] at this; omega
            rw [this, Bool.and_false]
          repeat' (first
              | (simp only [dl_len, dl_nth, hd, h0, h1, Int.toNat_natCast, hr, hy', Option.map_some, ↓rd_iD, onC_true, hg, hq, ↓wA, ↓wC, wB, frzBE, frzBS, Nat.reduceEqDiff, Nat.reduceAdd, Nat.reduceSub, reduceIte, reduceCtorEq, Nat.reduceBEq, Nat.reduceLT, decide_true])
              | (refine call_det (hc) rfl rfl ?_)
              | (refine callP_det (hc) rfl rfl ?_)
              | (refine onI_bare (by simp only [InR]; omega) ?_)
              | (refine execG_split (fun h => ?_) (fun h => ?_) <;> simp only [h])
              | (refine execC_split (fun h => ?_) (fun h => ?_) <;> (try simp only [h]))
              | (refine onPick_split (fun h => ?_) (fun h => ?_) <;> (try simp only [h])))
          all_goals rw [hres]
  · rintro ⟨hin, hri⟩ hd
    have hres : (v.all (fun n => within n a b) && rises v) = true := by
      rw [Bool.and_eq_true]
      refine ⟨List.all_eq_true.2 fun n hn => ?_, (rises_iff v).2 fun j hj => hri j hj⟩
      obtain ⟨j, hj⟩ := List.getElem?_of_mem hn
      exact hin j n (lt_of_get hj) hj
    simp only [dl_len, hd, ↓wA, ↓wC, wB, frzBE, frzBS, Nat.reduceEqDiff, Nat.reduceAdd, Nat.reduceSub, reduceIte, reduceCtorEq, Nat.reduceBEq, Nat.reduceLT, decide_true]
    rw [hres]
end Go.Pe.Tryd

set_option maxRecDepth 100000
set_option maxHeartbeats 4000000
set_option linter.all false
namespace Go.Pe.Tryd
open Go.Proofs.Tryd
end Go.Pe.Tryd

set_option maxRecDepth 100000
set_option maxHeartbeats 4000000
set_option linter.all false
namespace Go.Pe.Tryd
open Go.Proofs.Tryd
/-- a case. -/
structure Cs where
  i : Int
  a : Int
  d : Int
  h : List Int
def Cs.p (x : Cs) (dh : D) : D := .st (.cons (.int .i64 x.i) (.cons (.int .i64 x.a) (.cons (.int .i64 x.d) (.cons dh .nil))))
def Cs.s (x : Cs) : D := x.p (.sl false 1 (dl iD x.h))
def Cs.o (x : Cs) : D := x.p (.sl true 1 (dl iD x.h))
def Cs.ok0 (x : Cs) : Prop := x.h.length ≤ 1048576
/-- an office. -/
structure Off where
  day : Int
  cs : List Cs
  kept : Int
  moved : Int
  led : List (List UInt8)
def offP (o : Off) (dc dd : D) : D := .st (.cons (.int .i64 o.day) (.cons dc (.cons (.int .i64 o.kept) (.cons (.int .i64 o.moved) (.cons dd .nil)))))
def Off.s (o : Off) : D := offP o (.sl false 4 (dl Cs.s o.cs)) (.sl false 1 (dl D.str o.led))
def Off.o (o : Off) : D := offP o (.sl true 4 (dl Cs.o o.cs)) (.sl true 1 (dl D.str o.led))
def strsOk (L : List (List UInt8)) : Prop := L.length ≤ 1048576 ∧ ∀ s ∈ L, s.length ≤ 1048576
def casesOk (xs : List Cs) : Prop := xs.length ≤ 1048576 ∧ ∀ x ∈ xs, x.ok0
def Off.ok0 (o : Off) : Prop := casesOk o.cs ∧ strsOk o.led
theorem strs_noOwn (L : List (List UInt8)) : (dl D.str L).noOwn = true := dl_noOwn (fun _ => rfl) L
theorem strs_unown (L : List (List UInt8)) : (dl D.str L).unown = dl D.str L := dl_unown (fun _ => rfl) L
theorem Cs.s_noOwn (x : Cs) : x.s.noOwn = true := by simp [Cs.s, Cs.p, D.noOwn, ints_noOwn]
theorem Cs.s_unown (x : Cs) : x.s.unown = x.s := by simp [Cs.s, Cs.p, D.unown, ints_unown]
theorem Cs.o_unown (x : Cs) : x.o.unown = x.s := by simp [Cs.o, Cs.s, Cs.p, D.unown, ints_unown]
theorem Cs.o_noOwn (x : Cs) : x.o.noOwn = false := by simp [Cs.o, Cs.p, D.noOwn]
theorem Cs.s_isV (x : Cs) : x.s.isV = true := rfl
theorem Cs.s_size (x : Cs) : x.s.size = 4 := rfl
theorem Cs.o_isV (x : Cs) : x.o.isV = true := rfl
theorem Cs.o_size (x : Cs) : x.o.size = 4 := rfl
theorem css_noOwn (xs : List Cs) : (dl Cs.s xs).noOwn = true := dl_noOwn Cs.s_noOwn xs
theorem css_unown (xs : List Cs) : (dl Cs.s xs).unown = dl Cs.s xs := dl_unown Cs.s_unown xs
theorem cso_unown : ∀ xs : List Cs, (dl Cs.o xs).unown = dl Cs.s xs
  | [] => rfl
  | x :: xs => by
    have := cso_unown xs
    simp only [dl, List.map_cons, ofL, D.unown, Cs.o_unown] at this ⊢
    rw [this]
theorem Off.s_noOwn (o : Off) : o.s.noOwn = true := by simp [Off.s, offP, D.noOwn, css_noOwn, strs_noOwn]
theorem Off.s_unown (o : Off) : o.s.unown = o.s := by simp [Off.s, offP, D.unown, css_unown, strs_unown]
theorem Off.o_unown (o : Off) : o.o.unown = o.s := by simp [Off.s, Off.o, offP, D.unown, cso_unown, strs_unown]
theorem rd_cs {o : List Ob} {K : SV → Prop} {x : Cs} : stepRd o (some 4) x.s K = K (.d x.s) := by simp [Cs.s, Cs.p, stepRd, D.size, D.noOwn, ints_noOwn]
theorem rd_off {o : List Ob} {K : SV → Prop} {x : Off} : stepRd o (some 5) x.s K = K (.d x.s) := by simp [Off.s, offP, stepRd, D.size, D.noOwn, css_noOwn, strs_noOwn]
/-! sizes -/
theorem take_get {α : Type} {xs : List α} {i : Nat} {r : α} (hr : xs[i]? = some r) : xs.take (i + 1) = xs.take i ++ [r] := by
  have hi := lt_of_get hr
  rw [List.take_succ_eq_append_getElem hi]
  rw [List.getElem?_eq_getElem hi] at hr
  injection hr with hr
  rw [hr]
theorem Fn_mono {P : PG} {f : FuncId} {ds : List D} {R S : List D → Prop} (h : Fn P f ds R) (hs : ∀ rs, R rs → S rs) : Fn P f ds S := by
  intro M vs w h1 h2 h3
  refine (h M vs w h1 h2 h3).mono ?_
  rintro e w' ⟨rs, us, fp, e1, e2, e3⟩
  exact ⟨rs, us, fp, e1, hs rs e2, e3⟩
theorem szI_fn (v : List Int) (n : Int) (h0 : 0 ≤ n) (h1 : n ≤ 1048576) (hm : v.length ≤ maxLen) : Fn prog 91 [.sl false 1 (dl iD v), .int .i64 n] (fun rs => ∃ m : Int, rs = [.int .i64 m] ∧ -1 ≤ m ∧ m ≤ n ∧ (0 ≤ m → v.length ≤ 1048576)) :=
  Fn_mono (szIntS_fn v n h0 h1 hm) fun rs hr => by
    subst hr
    refine ⟨_, rfl, ?_, ?_, ?_⟩ <;> split <;> omega
theorem szCase_fn (x : Cs) (n : Int) (h0 : 0 ≤ n) (h1 : n ≤ 1048576) (hm : x.h.length ≤ maxLen) : Fn prog 67 [x.s, .int .i64 n] (fun rs => ∃ m : Int, rs = [.int .i64 m] ∧ -1 ≤ m ∧ m ≤ n ∧ (0 ≤ m → x.ok0)) := by
  refine Fn_of' (fn := f67) (by exact func67) c67 r67 (n := 12) (by rfl) (rv := [.tmp 4]) (by rfl) (by simp) ?_
  unfold m67
  simp only [Cs.s, Cs.p]
  repeat' (first
      | (simp only [ints_noOwn, onC_true, ↓wA, ↓wC, wB, frzBE, frzBS, Nat.reduceEqDiff, Nat.reduceAdd, Nat.reduceSub, reduceIte, reduceCtorEq, Nat.reduceBEq, Nat.reduceLT, decide_true, sz51, sz92])
      | (refine execG_split (fun h => ?_) (fun h => ?_) <;> simp only [h])
      | (refine execC_split (fun h => ?_) (fun h => ?_) <;> (try simp only [h]))
      | (refine onPick_split (fun h => ?_) (fun h => ?_) <;> (try simp only [h])))
  refine call_rel (szI_fn x.h n h0 h1 hm) rfl fun rs h => ?_
  obtain ⟨m, rfl, e1, e2, e3⟩ := h
  refine ⟨.inl rfl, ?_⟩
  cases hd : decide (m < 0) with
  | true =>
    repeat' (first
        | (simp only [hd, ↓wA, ↓wC, wB, frzBE, frzBS, Nat.reduceEqDiff, Nat.reduceAdd, Nat.reduceSub, reduceIte, reduceCtorEq, Nat.reduceBEq, Nat.reduceLT, decide_true, sz51, sz92])
        | (refine execG_split (fun h => ?_) (fun h => ?_) <;> simp only [h])
        | (refine execC_split (fun h => ?_) (fun h => ?_) <;> (try simp only [h]))
        | (refine onPick_split (fun h => ?_) (fun h => ?_) <;> (try simp only [h])))
    exact ⟨-1, rfl, by omega, by omega, by omega⟩
  | false =>
    have := of_decide_eq_false hd
    repeat' (first
        | (simp only [hd, ↓wA, ↓wC, wB, frzBE, frzBS, Nat.reduceEqDiff, Nat.reduceAdd, Nat.reduceSub, reduceIte, reduceCtorEq, Nat.reduceBEq, Nat.reduceLT, decide_true, sz51, sz92])
        | (refine execG_split (fun h => ?_) (fun h => ?_) <;> simp only [h])
        | (refine execC_split (fun h => ?_) (fun h => ?_) <;> (try simp only [h]))
        | (refine onPick_split (fun h => ?_) (fun h => ?_) <;> (try simp only [h])))
    exact ⟨m, rfl, e1, e2, fun h => e3 h⟩
theorem szCaseS_fn (xs : List Cs) (n : Int) (h0 : 0 ≤ n) (h1 : n ≤ 1048576) (hlen : xs.length ≤ maxLen) (hx : ∀ x ∈ xs, x.h.length ≤ maxLen) : Fn prog 48 [.sl false 4 (dl Cs.s xs), .int .i64 n] (fun rs => ∃ m : Int, rs = [.int .i64 m] ∧ -1 ≤ m ∧ m ≤ n ∧ (0 ≤ m → casesOk xs)) := by
  have hm' : maxLen = 9223372036854775807 := by rfl
  refine Fn_of' (fn := f48) (by exact func48) c48 r48 (n := 27) (by rfl) (rv := [.tmp 4]) (by rfl) (by simp) ?_
  unfold m48
  simp only [dl_len, ↓wA, ↓wC, wB, frzBE, frzBS, Nat.reduceEqDiff, Nat.reduceAdd, Nat.reduceSub, reduceIte, reduceCtorEq, Nat.reduceBEq, Nat.reduceLT, decide_true, sz51, sz92]
  refine onI_bare (by simp only [InR]; omega) ?_
  cases hd : decide (n - (xs.length : Int) < 0) with
  | true =>
    repeat' (first
        | (simp only [hd, ↓wA, ↓wC, wB, frzBE, frzBS, Nat.reduceEqDiff, Nat.reduceAdd, Nat.reduceSub, reduceIte, reduceCtorEq, Nat.reduceBEq, Nat.reduceLT, decide_true, sz51, sz92])
        | (refine execG_split (fun h => ?_) (fun h => ?_) <;> simp only [h])
        | (refine execC_split (fun h => ?_) (fun h => ?_) <;> (try simp only [h]))
        | (refine onPick_split (fun h => ?_) (fun h => ?_) <;> (try simp only [h])))
    exact ⟨-1, rfl, by omega, by omega, by omega⟩
  | false =>
    have hd' := of_decide_eq_false hd
    repeat' (first
        | (simp only [hd, ↓wA, ↓wC, wB, frzBE, frzBS, Nat.reduceEqDiff, Nat.reduceAdd, Nat.reduceSub, reduceIte, reduceCtorEq, Nat.reduceBEq, Nat.reduceLT, decide_true, sz51, sz92])
        | (refine execG_split (fun h => ?_) (fun h => ?_) <;> simp only [h])
        | (refine execC_split (fun h => ?_) (fun h => ?_) <;> (try simp only [h]))
        | (refine onPick_split (fun h => ?_) (fun h => ?_) <;> (try simp only [h])))
    refine exec_loop (fun x : Nat × Int => ⟨[(0, .d (.sl false 4 (dl Cs.s xs))), (1, .d (.int .i64 x.2)), (5, .d (.int .i64 x.1))], []⟩)
      (fun x => x.1 ≤ xs.length ∧ 0 ≤ x.2 ∧ x.2 ≤ n - xs.length ∧ ∀ y ∈ xs.take x.1, y.ok0) (fun x => xs.length - x.1) (0, n - xs.length) (weak_of _ rfl ⟨⟨rfl, rfl⟩, ⟨rfl, rfl⟩, ⟨rfl, rfl⟩, trivial⟩) ⟨by simp, by simp only; omega, by simp only; omega, by simp⟩ ?_
    rintro ⟨i, m⟩ ⟨i1, i2, i3, i4⟩
    simp only at i1 i2 i3 i4 ⊢
    by_cases hlt : i < xs.length
    · obtain ⟨r, hr⟩ := get_lt hlt
      have hd2 : decide ((i : Int) < (xs.length : Int)) = true := decide_eq_true (by omega)
      have hi0 : (0 : Int) ≤ (i : Int) := by omega
      repeat' (first
          | (simp only [dl_len, dl_nth, hd2, hi0, Int.toNat_natCast, hr, Option.map_some, ↓rd_cs, onC_true, ↓wA, ↓wC, wB, frzBE, frzBS, Nat.reduceEqDiff, Nat.reduceAdd, Nat.reduceSub, reduceIte, reduceCtorEq, Nat.reduceBEq, Nat.reduceLT, decide_true, sz51, sz92])
          | (refine execG_split (fun h => ?_) (fun h => ?_) <;> simp only [h])
          | (refine execC_split (fun h => ?_) (fun h => ?_) <;> (try simp only [h]))
          | (refine onPick_split (fun h => ?_) (fun h => ?_) <;> (try simp only [h])))
      refine call_rel (szCase_fn r m i2 (by omega) (hx r (List.mem_of_getElem? hr))) (by simp [argsD, argD, Cs.s_unown]) fun rs h => ?_
      obtain ⟨q, rfl, e1, e2, e3⟩ := h
      refine ⟨.inl rfl, ?_⟩
      cases hq : decide (q < 0) with
      | true =>
        repeat' (first
            | (simp only [hq, ↓wA, ↓wC, wB, frzBE, frzBS, Nat.reduceEqDiff, Nat.reduceAdd, Nat.reduceSub, reduceIte, reduceCtorEq, Nat.reduceBEq, Nat.reduceLT, decide_true, sz51, sz92])
            | (refine execG_split (fun h => ?_) (fun h => ?_) <;> simp only [h])
            | (refine execC_split (fun h => ?_) (fun h => ?_) <;> (try simp only [h]))
            | (refine onPick_split (fun h => ?_) (fun h => ?_) <;> (try simp only [h])))
        exact ⟨-1, rfl, by omega, by omega, by omega⟩
      | false =>
        have hq' := of_decide_eq_false hq
        repeat' (first
            | (simp only [hq, ↓wA, ↓wC, wB, frzBE, frzBS, Nat.reduceEqDiff, Nat.reduceAdd, Nat.reduceSub, reduceIte, reduceCtorEq, Nat.reduceBEq, Nat.reduceLT, decide_true, sz51, sz92])
            | (with_reducible refine onI_bare ?_ ?_; focus (simp only [InR]; omega))
            | (refine execG_split (fun h => ?_) (fun h => ?_) <;> simp only [h])
            | (refine execC_split (fun h => ?_) (fun h => ?_) <;> (try simp only [h]))
            | (refine onPick_split (fun h => ?_) (fun h => ?_) <;> (try simp only [h])))
        refine ⟨(i + 1, q), (weak_of _ rfl ⟨⟨rfl, rfl⟩, ⟨rfl, rfl⟩, ⟨rfl, rfl⟩, trivial⟩), ⟨by simp only; omega, by simp only; omega, by simp only; omega, fun y hy => ?_⟩, by simp only; omega⟩
        rw [take_get hr] at hy
        rcases List.mem_append.1 hy with hy | hy
        · exact i4 y hy
        · rw [List.mem_singleton.1 hy]; exact e3 (by omega)
    · have hd2 : decide ((i : Int) < (xs.length : Int)) = false := decide_eq_false (by omega)
      have e : i = xs.length := by omega
      repeat' (first
          | (simp only [dl_len, hd2, ↓wA, ↓wC, wB, frzBE, frzBS, Nat.reduceEqDiff, Nat.reduceAdd, Nat.reduceSub, reduceIte, reduceCtorEq, Nat.reduceBEq, Nat.reduceLT, decide_true, sz51, sz92])
          | (refine execG_split (fun h => ?_) (fun h => ?_) <;> simp only [h])
          | (refine execC_split (fun h => ?_) (fun h => ?_) <;> (try simp only [h]))
          | (refine onPick_split (fun h => ?_) (fun h => ?_) <;> (try simp only [h])))
      refine ⟨m, rfl, by omega, by omega, fun _ => ⟨by omega, fun y hy => i4 y (by rw [e, List.take_length]; exact hy)⟩⟩
theorem szStringS_fn (L : List (List UInt8)) (n : Int) (h0 : 0 ≤ n) (h1 : n ≤ 1048576) (hlen : L.length ≤ maxLen) (hx : ∀ s ∈ L, s.length ≤ maxLen) : Fn prog 49 [.sl false 1 (dl D.str L), .int .i64 n] (fun rs => ∃ m : Int, rs = [.int .i64 m] ∧ -1 ≤ m ∧ m ≤ n ∧ (0 ≤ m → strsOk L)) := by
  have hm' : maxLen = 9223372036854775807 := by rfl
  refine Fn_of' (fn := f49) (by exact func49) c49 r49 (n := 28) (by rfl) (rv := [.tmp 4]) (by rfl) (by simp) ?_
  unfold m49
  simp only [dl_len, ↓wA, ↓wC, wB, frzBE, frzBS, Nat.reduceEqDiff, Nat.reduceAdd, Nat.reduceSub, reduceIte, reduceCtorEq, Nat.reduceBEq, Nat.reduceLT, decide_true, sz51, sz92]
  refine onI_bare (by simp only [InR]; omega) ?_
  cases hd : decide (n - (L.length : Int) < 0) with
  | true =>
    repeat' (first
        | (simp only [hd, ↓wA, ↓wC, wB, frzBE, frzBS, Nat.reduceEqDiff, Nat.reduceAdd, Nat.reduceSub, reduceIte, reduceCtorEq, Nat.reduceBEq, Nat.reduceLT, decide_true, sz51, sz92])
        | (refine execG_split (fun h => ?_) (fun h => ?_) <;> simp only [h])
        | (refine execC_split (fun h => ?_) (fun h => ?_) <;> (try simp only [h]))
        | (refine onPick_split (fun h => ?_) (fun h => ?_) <;> (try simp only [h])))
    exact ⟨-1, rfl, by omega, by omega, by omega⟩
  | false =>
    have hd' := of_decide_eq_false hd
    repeat' (first
        | (simp only [hd, ↓wA, ↓wC, wB, frzBE, frzBS, Nat.reduceEqDiff, Nat.reduceAdd, Nat.reduceSub, reduceIte, reduceCtorEq, Nat.reduceBEq, Nat.reduceLT, decide_true, sz51, sz92])
        | (refine execG_split (fun h => ?_) (fun h => ?_) <;> simp only [h])
        | (refine execC_split (fun h => ?_) (fun h => ?_) <;> (try simp only [h]))
        | (refine onPick_split (fun h => ?_) (fun h => ?_) <;> (try simp only [h])))
    refine exec_loop (fun x : Nat × Int => ⟨[(0, .d (.sl false 1 (dl D.str L))), (1, .d (.int .i64 x.2)), (5, .d (.int .i64 x.1))], []⟩)
      (fun x => x.1 ≤ L.length ∧ 0 ≤ x.2 ∧ x.2 ≤ n - L.length ∧ ∀ y ∈ L.take x.1, y.length ≤ 1048576) (fun x => L.length - x.1) (0, n - L.length) (weak_of _ rfl ⟨⟨rfl, rfl⟩, ⟨rfl, rfl⟩, ⟨rfl, rfl⟩, trivial⟩) ⟨by simp, by simp only; omega, by simp only; omega, by simp⟩ ?_
    rintro ⟨i, m⟩ ⟨i1, i2, i3, i4⟩
    simp only at i1 i2 i3 i4 ⊢
    by_cases hlt : i < L.length
    · obtain ⟨r, hr⟩ := get_lt hlt
      have hd2 : decide ((i : Int) < (L.length : Int)) = true := decide_eq_true (by omega)
      have hi0 : (0 : Int) ≤ (i : Int) := by omega
      have hrl := hx r (List.mem_of_getElem? hr)
      cases hq : decide (m - (r.length : Int) < 0) with
      | true =>
        repeat' (first
            | (simp only [dl_len, dl_nth, hd2, hi0, hq, Int.toNat_natCast, hr, Option.map_some, onC_true, ↓wA, ↓wC, wB, frzBE, frzBS, Nat.reduceEqDiff, Nat.reduceAdd, Nat.reduceSub, reduceIte, reduceCtorEq, Nat.reduceBEq, Nat.reduceLT, decide_true, sz51, sz92])
            | (with_reducible refine onI_bare ?_ ?_; focus (simp only [InR]; omega))
            | (refine execG_split (fun h => ?_) (fun h => ?_) <;> simp only [h])
            | (refine execC_split (fun h => ?_) (fun h => ?_) <;> (try simp only [h]))
            | (refine onPick_split (fun h => ?_) (fun h => ?_) <;> (try simp only [h])))
        all_goals exact ⟨-1, rfl, by omega, by omega, by omega⟩
      | false =>
        have hq' := of_decide_eq_false hq
        repeat' (first
            | (simp only [dl_len, dl_nth, hd2, hi0, hq, Int.toNat_natCast, hr, Option.map_some, onC_true, ↓wA, ↓wC, wB, frzBE, frzBS, Nat.reduceEqDiff, Nat.reduceAdd, Nat.reduceSub, reduceIte, reduceCtorEq, Nat.reduceBEq, Nat.reduceLT, decide_true, sz51, sz92])
            | (with_reducible refine onI_bare ?_ ?_; focus (simp only [InR]; omega))
            | (refine execG_split (fun h => ?_) (fun h => ?_) <;> simp only [h])
            | (refine execC_split (fun h => ?_) (fun h => ?_) <;> (try simp only [h]))
            | (refine onPick_split (fun h => ?_) (fun h => ?_) <;> (try simp only [h])))
        all_goals
          refine ⟨(i + 1, m - r.length), (weak_of _ rfl ⟨⟨rfl, rfl⟩, ⟨rfl, rfl⟩, ⟨rfl, rfl⟩, trivial⟩), ⟨by simp only; omega, by simp only; omega, by simp only; omega, fun y hy => ?_⟩, by simp only; omega⟩
          rw [take_get hr] at hy
          rcases List.mem_append.1 hy with hy | hy
          · exact i4 y hy
          · rw [List.mem_singleton.1 hy]; omega
    · have hd2 : decide ((i : Int) < (L.length : Int)) = false := decide_eq_false (by omega)
      have e : i = L.length := by omega
      repeat' (first
          | (simp only [dl_len, hd2, ↓wA, ↓wC, wB, frzBE, frzBS, Nat.reduceEqDiff, Nat.reduceAdd, Nat.reduceSub, reduceIte, reduceCtorEq, Nat.reduceBEq, Nat.reduceLT, decide_true, sz51, sz92])
          | (refine execG_split (fun h => ?_) (fun h => ?_) <;> simp only [h])
          | (refine execC_split (fun h => ?_) (fun h => ?_) <;> (try simp only [h]))
          | (refine onPick_split (fun h => ?_) (fun h => ?_) <;> (try simp only [h])))
      refine ⟨m, rfl, by omega, by omega, fun _ => ⟨by omega, fun y hy => i4 y (by rw [e, List.take_length]; exact hy)⟩⟩
theorem szOffice_fn (o : Off) (n : Int) (h0 : 0 ≤ n) (h1 : n ≤ 1048576) (c1 : o.cs.length ≤ maxLen) (c2 : ∀ x ∈ o.cs, x.h.length ≤ maxLen) (c3 : o.led.length ≤ maxLen) (c4 : ∀ s ∈ o.led, s.length ≤ maxLen) : Fn prog 20 [o.s, .int .i64 n] (fun rs => ∃ m : Int, rs = [.int .i64 m] ∧ -1 ≤ m ∧ m ≤ n ∧ (0 ≤ m → o.ok0)) := by
  refine Fn_of' (fn := f20) (by exact func20) c20 r20 (n := 18) (by rfl) (rv := [.tmp 4]) (by rfl) (by simp) ?_
  unfold m20
  simp only [Off.s, offP]
  repeat' (first
      | (simp only [css_noOwn, strs_noOwn, onC_true, ↓wA, ↓wC, wB, frzBE, frzBS, Nat.reduceEqDiff, Nat.reduceAdd, Nat.reduceSub, reduceIte, reduceCtorEq, Nat.reduceBEq, Nat.reduceLT, decide_true, sz51, sz92])
      | (refine execG_split (fun h => ?_) (fun h => ?_) <;> simp only [h])
      | (refine execC_split (fun h => ?_) (fun h => ?_) <;> (try simp only [h]))
      | (refine onPick_split (fun h => ?_) (fun h => ?_) <;> (try simp only [h])))
  refine call_rel (szCaseS_fn o.cs n h0 h1 c1 c2) rfl fun rs h => ?_
  obtain ⟨m, rfl, e1, e2, e3⟩ := h
  refine ⟨.inl rfl, ?_⟩
  cases hd : decide (m < 0) with
  | true =>
    repeat' (first
        | (simp only [hd, ↓wA, ↓wC, wB, frzBE, frzBS, Nat.reduceEqDiff, Nat.reduceAdd, Nat.reduceSub, reduceIte, reduceCtorEq, Nat.reduceBEq, Nat.reduceLT, decide_true, sz51, sz92])
        | (refine execG_split (fun h => ?_) (fun h => ?_) <;> simp only [h])
        | (refine execC_split (fun h => ?_) (fun h => ?_) <;> (try simp only [h]))
        | (refine onPick_split (fun h => ?_) (fun h => ?_) <;> (try simp only [h])))
    exact ⟨-1, rfl, by omega, by omega, by omega⟩
  | false =>
    have hd' := of_decide_eq_false hd
    repeat' (first
        | (simp only [hd, css_noOwn, strs_noOwn, onC_true, ↓wA, ↓wC, wB, frzBE, frzBS, Nat.reduceEqDiff, Nat.reduceAdd, Nat.reduceSub, reduceIte, reduceCtorEq, Nat.reduceBEq, Nat.reduceLT, decide_true, sz51, sz92])
        | (refine execG_split (fun h => ?_) (fun h => ?_) <;> simp only [h])
        | (refine execC_split (fun h => ?_) (fun h => ?_) <;> (try simp only [h]))
        | (refine onPick_split (fun h => ?_) (fun h => ?_) <;> (try simp only [h])))
    refine call_rel (szStringS_fn o.led m (by omega) (by omega) c3 c4) rfl fun rs h => ?_
    obtain ⟨q, rfl, f1, f2, f3⟩ := h
    refine ⟨.inl rfl, ?_⟩
    cases hq : decide (q < 0) with
    | true =>
      repeat' (first
          | (simp only [hq, ↓wA, ↓wC, wB, frzBE, frzBS, Nat.reduceEqDiff, Nat.reduceAdd, Nat.reduceSub, reduceIte, reduceCtorEq, Nat.reduceBEq, Nat.reduceLT, decide_true, sz51, sz92])
          | (refine execG_split (fun h => ?_) (fun h => ?_) <;> simp only [h])
          | (refine execC_split (fun h => ?_) (fun h => ?_) <;> (try simp only [h]))
          | (refine onPick_split (fun h => ?_) (fun h => ?_) <;> (try simp only [h])))
      exact ⟨-1, rfl, by omega, by omega, by omega⟩
    | false =>
      repeat' (first
          | (simp only [hq, ↓wA, ↓wC, wB, frzBE, frzBS, Nat.reduceEqDiff, Nat.reduceAdd, Nat.reduceSub, reduceIte, reduceCtorEq, Nat.reduceBEq, Nat.reduceLT, decide_true, sz51, sz92])
          | (refine execG_split (fun h => ?_) (fun h => ?_) <;> simp only [h])
          | (refine execC_split (fun h => ?_) (fun h => ?_) <;> (try simp only [h]))
          | (refine onPick_split (fun h => ?_) (fun h => ?_) <;> (try simp only [h])))
      exact ⟨q, rfl, f1, by omega, fun h => ⟨e3 (by omega), f3 h⟩⟩
/-! equality -/
theorem eqStringS_refl (L : List (List UInt8)) (hlen : L.length ≤ 1048576) : Fn prog 57 [.sl false 1 (dl D.str L), .sl false 1 (dl D.str L)] (fun rs => rs = [.bool true]) := by
  refine Fn_of' (fn := f57) (by exact func57) c57 r57 (n := 26) (by rfl) (rv := [.tmp 4]) (by rfl) (by simp) ?_
  unfold m57
  repeat' (first
      | (simp only [dl_len, ↓wA, ↓wC, wB, frzBE, frzBS, Nat.reduceEqDiff, Nat.reduceAdd, Nat.reduceSub, reduceIte, reduceCtorEq, Nat.reduceBEq, Nat.reduceLT, decide_true, sz51, sz92])
      | (refine execG_split (fun h => ?_) (fun h => ?_) <;> simp only [h])
      | (refine execC_split (fun h => ?_) (fun h => ?_) <;> (try simp only [h]))
      | (refine onPick_split (fun h => ?_) (fun h => ?_) <;> (try simp only [h])))
  refine exec_range L.length (fun i : Nat => ⟨[(0, .d (.sl false 1 (dl D.str L))), (1, .d (.sl false 1 (dl D.str L))), (5, .d (.int .i64 i))], []⟩) (fun _ => True) (weak_of _ rfl ⟨⟨rfl, rfl⟩, ⟨rfl, rfl⟩, ⟨rfl, rfl⟩, trivial⟩) trivial ?_ ?_
  · intro i hlt _ hd h0
    obtain ⟨r, hr⟩ := get_lt hlt
    repeat' (first
        | (simp only [dl_len, dl_nth, hd, Int.toNat_natCast, hr, Option.map_some, h0, onC_true, decide_true, ↓wA, ↓wC, wB, frzBE, frzBS, Nat.reduceEqDiff, Nat.reduceAdd, Nat.reduceSub, reduceIte, reduceCtorEq, Nat.reduceBEq, Nat.reduceLT, decide_true, sz51, sz92])
        | (with_reducible refine onI_bare ?_ ?_; focus (simp only [InR]; omega))
        | (refine execG_split (fun h => ?_) (fun h => ?_) <;> simp only [h])
        | (refine execC_split (fun h => ?_) (fun h => ?_) <;> (try simp only [h]))
        | (refine onPick_split (fun h => ?_) (fun h => ?_) <;> (try simp only [h])))
    all_goals exact ⟨i + 1, (weak_of _ rfl ⟨⟨rfl, rfl⟩, ⟨rfl, rfl⟩, ⟨rfl, rfl⟩, trivial⟩), by omega, by omega⟩
  · intro _ hd
    repeat' (first
        | (simp only [dl_len, hd, ↓wA, ↓wC, wB, frzBE, frzBS, Nat.reduceEqDiff, Nat.reduceAdd, Nat.reduceSub, reduceIte, reduceCtorEq, Nat.reduceBEq, Nat.reduceLT, decide_true, sz51, sz92])
        | (refine execG_split (fun h => ?_) (fun h => ?_) <;> simp only [h])
        | (refine execC_split (fun h => ?_) (fun h => ?_) <;> (try simp only [h]))
        | (refine onPick_split (fun h => ?_) (fun h => ?_) <;> (try simp only [h])))
theorem eqCase_refl (x : Cs) (hx : x.ok0) : Fn prog 79 [x.s, x.s] (fun rs => rs = [.bool true]) := by
  have h1 := eqIntS_refl x.h hx
  refine Fn_of' (fn := f79) (by exact func79) c79 r79 (n := 26) (by rfl) (rv := [.tmp 4]) (by rfl) (by simp) ?_
  unfold m79
  simp only [Cs.s, Cs.p]
  repeat' (first
      | (simp only [ints_noOwn, onC_true, decide_true, ↓wA, ↓wC, wB, frzBE, frzBS, Nat.reduceEqDiff, Nat.reduceAdd, Nat.reduceSub, reduceIte, reduceCtorEq, Nat.reduceBEq, Nat.reduceLT, decide_true, sz51, sz92])
      | (refine call_det h1 rfl rfl ?_)
      | (refine execG_split (fun h => ?_) (fun h => ?_) <;> simp only [h])
      | (refine execC_split (fun h => ?_) (fun h => ?_) <;> (try simp only [h]))
      | (refine onPick_split (fun h => ?_) (fun h => ?_) <;> (try simp only [h])))
theorem eqCaseS_refl (xs : List Cs) (hx : casesOk xs) : Fn prog 56 [.sl false 4 (dl Cs.s xs), .sl false 4 (dl Cs.s xs)] (fun rs => rs = [.bool true]) := by
  have hlen := hx.1
  refine Fn_of' (fn := f56) (by exact func56) c56 r56 (n := 27) (by rfl) (rv := [.tmp 4]) (by rfl) (by simp) ?_
  unfold m56
  repeat' (first
      | (simp only [dl_len, ↓wA, ↓wC, wB, frzBE, frzBS, Nat.reduceEqDiff, Nat.reduceAdd, Nat.reduceSub, reduceIte, reduceCtorEq, Nat.reduceBEq, Nat.reduceLT, decide_true, sz51, sz92])
      | (refine execG_split (fun h => ?_) (fun h => ?_) <;> simp only [h])
      | (refine execC_split (fun h => ?_) (fun h => ?_) <;> (try simp only [h]))
      | (refine onPick_split (fun h => ?_) (fun h => ?_) <;> (try simp only [h])))
  refine exec_range xs.length (fun i : Nat => ⟨[(0, .d (.sl false 4 (dl Cs.s xs))), (1, .d (.sl false 4 (dl Cs.s xs))), (5, .d (.int .i64 i))], []⟩) (fun _ => True) (weak_of _ rfl ⟨⟨rfl, rfl⟩, ⟨rfl, rfl⟩, ⟨rfl, rfl⟩, trivial⟩) trivial ?_ ?_
  · intro i hlt _ hd h0
    obtain ⟨r, hr⟩ := get_lt hlt
    have he := eqCase_refl r (hx.2 r (List.mem_of_getElem? hr))
    repeat' (first
        | (simp only [dl_len, dl_nth, hd, Int.toNat_natCast, hr, Option.map_some, ↓rd_cs, h0, onC_true, ↓wA, ↓wC, wB, frzBE, frzBS, Nat.reduceEqDiff, Nat.reduceAdd, Nat.reduceSub, reduceIte, reduceCtorEq, Nat.reduceBEq, Nat.reduceLT, decide_true, sz51, sz92])
        | (refine callP_det he (by simp [argsD, argD, valOf, Cs.s_unown]) rfl ?_)
        | (refine call_det he (by simp [argsD, argD, valOf, Cs.s_unown]) rfl ?_)
        | (with_reducible refine onI_bare ?_ ?_; focus (simp only [InR]; omega))
        | (refine execG_split (fun h => ?_) (fun h => ?_) <;> simp only [h])
        | (refine execC_split (fun h => ?_) (fun h => ?_) <;> (try simp only [h]))
        | (refine onPick_split (fun h => ?_) (fun h => ?_) <;> (try simp only [h])))
    all_goals exact ⟨i + 1, (weak_of _ rfl ⟨⟨rfl, rfl⟩, ⟨rfl, rfl⟩, ⟨rfl, rfl⟩, trivial⟩), by omega, by omega⟩
  · intro _ hd
    repeat' (first
        | (simp only [dl_len, hd, ↓wA, ↓wC, wB, frzBE, frzBS, Nat.reduceEqDiff, Nat.reduceAdd, Nat.reduceSub, reduceIte, reduceCtorEq, Nat.reduceBEq, Nat.reduceLT, decide_true, sz51, sz92])
        | (refine execG_split (fun h => ?_) (fun h => ?_) <;> simp only [h])
        | (refine execC_split (fun h => ?_) (fun h => ?_) <;> (try simp only [h]))
        | (refine onPick_split (fun h => ?_) (fun h => ?_) <;> (try simp only [h])))
theorem eqOffice_refl (o : Off) (ho : o.ok0) : Fn prog 24 [o.s, o.s] (fun rs => rs = [.bool true]) := by
  have h1 := eqCaseS_refl o.cs ho.1
  have h2 := eqStringS_refl o.led ho.2.1
  refine Fn_of' (fn := f24) (by exact func24) c24 r24 (n := 32) (by rfl) (rv := [.tmp 4]) (by rfl) (by simp) ?_
  unfold m24
  simp only [Off.s, offP]
  repeat' (first
      | (simp only [css_noOwn, strs_noOwn, onC_true, decide_true, ↓wA, ↓wC, wB, frzBE, frzBS, Nat.reduceEqDiff, Nat.reduceAdd, Nat.reduceSub, reduceIte, reduceCtorEq, Nat.reduceBEq, Nat.reduceLT, decide_true, sz51, sz92])
      | (refine call_det h1 rfl rfl ?_)
      | (refine call_det h2 rfl rfl ?_)
      | (refine execG_split (fun h => ?_) (fun h => ?_) <;> simp only [h])
      | (refine execC_split (fun h => ?_) (fun h => ?_) <;> (try simp only [h]))
      | (refine onPick_split (fun h => ?_) (fun h => ?_) <;> (try simp only [h])))
/-! copies -/
theorem toStringS_own (L : List (List UInt8)) (hlen : L.length ≤ 1048576) : Fn prog 53 [.sl false 1 (dl D.str L)] (fun rs => rs = [.sl true 1 (dl D.str L)]) := by
  refine Fn_of' (fn := f53) (by exact func53) c53 r53 (n := 22) (by rfl) (rv := [.tmp 2]) (by rfl) (by simp) ?_
  unfold m53
  simp only [↓wA, ↓wC, wB, frzBE, frzBS, Nat.reduceEqDiff, Nat.reduceAdd, Nat.reduceSub, reduceIte, reduceCtorEq, Nat.reduceBEq, Nat.reduceLT, decide_true, sz51, sz92]
  simp only [dl_len, ↓wA, ↓wC, wB, frzBE, frzBS, Nat.reduceEqDiff, Nat.reduceAdd, Nat.reduceSub, reduceIte, reduceCtorEq, Nat.reduceBEq, Nat.reduceLT, decide_true, sz51, sz92]
  refine onC_i (by omega) ?_
  have hz : ofL (List.replicate (↑L.length : Int).toNat (D.str [])) = dl D.str (L.take 0 ++ List.replicate (L.length - 0) []) := by
    rw [dl_replicate]; simp
  rw [hz]
  refine exec_range L.length (fun i : Nat => ⟨[(0, .d (.sl false 1 (dl D.str L))), (3, .own 0), (4, .d (.int .i64 i))], [.val (.sl true 1 (dl D.str (L.take i ++ List.replicate (L.length - i) [])))]⟩) (fun _ => True) (weak_of _ rfl ⟨⟨rfl, rfl⟩, ⟨rfl, rfl⟩, ⟨rfl, rfl⟩, trivial⟩) trivial ?_ ?_
  · intro i hlt _ hd h0
    obtain ⟨r, hr⟩ := get_lt hlt
    have hn : (L.take i ++ List.replicate (L.length - i) ([] : List UInt8))[i]? = some [] := by
      rw [List.getElem?_append_right (by simp; omega), List.length_take, Nat.min_eq_left (by omega), Nat.sub_self, show L.length - i = (L.length - (i + 1)) + 1 by omega]; rfl
    have hfs : (dl D.str (L.take i ++ List.replicate (L.length - i) ([] : List UInt8))).setN i (D.str r) = dl D.str (L.take (i + 1) ++ List.replicate (L.length - (i + 1)) []) := by
      rw [dl_setN, fill_step hr]
    repeat' (first
        | (simp only [dl_len, dl_nth, hd, h0, Int.toNat_natCast, hr, hn, hfs, Option.map_some, onC_true, ↓wA, ↓wC, wB, frzBE, frzBS, Nat.reduceEqDiff, Nat.reduceAdd, Nat.reduceSub, reduceIte, reduceCtorEq, Nat.reduceBEq, Nat.reduceLT, decide_true, sz51, sz92])
        | (with_reducible refine onI_bare ?_ ?_; focus (simp only [InR]; omega))
        | (refine execG_split (fun h => ?_) (fun h => ?_) <;> simp only [h])
        | (refine execC_split (fun h => ?_) (fun h => ?_) <;> (try simp only [h]))
        | (refine onPick_split (fun h => ?_) (fun h => ?_) <;> (try simp only [h])))
    all_goals exact ⟨i + 1, (weak_of _ rfl ⟨⟨rfl, rfl⟩, ⟨rfl, rfl⟩, ⟨rfl, rfl⟩, trivial⟩), by omega, by omega⟩
  · intro _ hd
    repeat' (first
        | (simp only [dl_len, hd, ↓wA, ↓wC, wB, frzBE, frzBS, Nat.reduceEqDiff, Nat.reduceAdd, Nat.reduceSub, reduceIte, reduceCtorEq, Nat.reduceBEq, Nat.reduceLT, decide_true, sz51, sz92])
        | (refine execG_split (fun h => ?_) (fun h => ?_) <;> simp only [h])
        | (refine execC_split (fun h => ?_) (fun h => ?_) <;> (try simp only [h]))
        | (refine onPick_split (fun h => ?_) (fun h => ?_) <;> (try simp only [h])))
    all_goals simp
theorem toCase_own (x : Cs) (hx : x.ok0) : Fn prog 73 [x.s] (fun rs => rs = [x.o]) := by
  have h1 := toIntS_own x.h hx
  refine Fn_ofg (ps := [[1, 1, 1, 1, 1, 1, 0], [1, 1, 1, 1, 1, 1, 1]]) (fn := f73) (by exact func73) c73 r73 (n := 18) (by rfl) (rv := [.cell 2 92]) (by rfl) (by simp) ?_
  unfold m73
  simp only [ghAll, ghAt]
  simp only [Cs.s, Cs.p]
  repeat' (first
      | (simp only [ints_noOwn, onC_true, ↓wA, ↓wC, wB, frzBE, frzBS, Nat.reduceEqDiff, Nat.reduceAdd, Nat.reduceSub, reduceIte, reduceCtorEq, Nat.reduceBEq, Nat.reduceLT, decide_true, sz51, sz92])
      | (refine call_det h1 rfl rfl ?_)
      | (refine execG_split (fun h => ?_) (fun h => ?_) <;> simp only [h])
      | (refine execC_split (fun h => ?_) (fun h => ?_) <;> (try simp only [h]))
      | (refine onPick_split (fun h => ?_) (fun h => ?_) <;> (try simp only [h])))
  refine exec_gh _ (unlink 2 none [3] (es := 1) (xs := dl iD x.h) rfl rfl) fun v1 => ?_
  simp only [obSet, ints_noOwn, onC_true, ↓wA, ↓wC, wB, frzBE, frzBS, Nat.reduceEqDiff, Nat.reduceAdd, Nat.reduceSub, reduceIte, reduceCtorEq, Nat.reduceBEq, Nat.reduceLT, decide_true, sz51, sz92]
  refine exec_gh1 (relink 1 5 4 none [3] rfl rfl rfl rfl (by decide) rfl) ?_
  simp only [obSet, ints_noOwn, onC_true, ↓wA, ↓wC, wB, frzBE, frzBS, Nat.reduceEqDiff, Nat.reduceAdd, Nat.reduceSub, reduceIte, reduceCtorEq, Nat.reduceBEq, Nat.reduceLT, decide_true, sz51, sz92]
  rfl
def zC : D := .st (.cons (.int .i64 0) (.cons (.int .i64 0) (.cons (.int .i64 0) (.cons (.sl true 1 .nil) .nil))))
def oz : Option Cs → D
  | some x => x.o
  | none => zC
theorem dl_someC : ∀ xs : List Cs, dl oz (xs.map some) = dl Cs.o xs
  | [] => rfl
  | x :: xs => by
    have := dl_someC xs
    simp only [dl, List.map_cons, ofL] at this ⊢
    rw [this]; rfl
theorem toCaseS_own (xs : List Cs) (hx : casesOk xs) : Fn prog 52 [.sl false 4 (dl Cs.s xs)] (fun rs => rs = [.sl true 4 (dl Cs.o xs)]) := by
  have hlen := hx.1
  refine Fn_of' (fn := f52) (by exact func52) c52 r52 (n := 23) (by rfl) (rv := [.tmp 2]) (by rfl) (by simp) ?_
  unfold m52
  simp only [↓wA, ↓wC, wB, frzBE, frzBS, Nat.reduceEqDiff, Nat.reduceAdd, Nat.reduceSub, reduceIte, reduceCtorEq, Nat.reduceBEq, Nat.reduceLT, decide_true, sz51, sz92]
  simp only [dl_len, ↓wA, ↓wC, wB, frzBE, frzBS, Nat.reduceEqDiff, Nat.reduceAdd, Nat.reduceSub, reduceIte, reduceCtorEq, Nat.reduceBEq, Nat.reduceLT, decide_true, sz51, sz92]
  refine onC_i (by omega) ?_
  have hz : ofL (List.replicate (↑xs.length : Int).toNat zC) = dl oz ((xs.map some).take 0 ++ List.replicate (xs.length - 0) none) := by
    rw [show zC = oz none from rfl, dl_replicate]; simp
  have hz' : D.st ((D.int IntKind.i64 0).cons ((D.int IntKind.i64 0).cons ((D.int IntKind.i64 0).cons ((D.sl true 1 .nil).cons D.nil)))) = zC := rfl
  rw [hz', hz]
  refine exec_range xs.length (fun i : Nat => ⟨[(0, .d (.sl false 4 (dl Cs.s xs))), (3, .own 0), (4, .d (.int .i64 i))], [.val (.sl true 4 (dl oz ((xs.map some).take i ++ List.replicate (xs.length - i) none)))]⟩) (fun _ => True) (weak_of _ rfl ⟨⟨rfl, rfl⟩, ⟨rfl, rfl⟩, ⟨rfl, rfl⟩, trivial⟩) trivial ?_ ?_
  · intro i hlt _ hd h0
    obtain ⟨r, hr⟩ := get_lt hlt
    have hto := toCase_own r (hx.2 r (List.mem_of_getElem? hr))
    have hrs : (xs.map some)[i]? = some (some r) := by rw [List.getElem?_map, hr]; rfl
    have hn : ((xs.map some).take i ++ List.replicate (xs.length - i) (none : Option Cs))[i]? = some none := by
      rw [List.getElem?_append_right (by simp; omega), List.length_take, List.length_map, Nat.min_eq_left (by omega), Nat.sub_self, show xs.length - i = (xs.length - (i + 1)) + 1 by omega]; rfl
    repeat' (first
        | (simp only [dl_len, dl_nth, hd, h0, Int.toNat_natCast, hr, hn, Option.map_some, onC_true, ↓rd_cs, Cs.o_isV, Cs.o_size, Cs.o_noOwn, Cs.s_noOwn, ↓wA, ↓wC, wB, frzBE, frzBS, Nat.reduceEqDiff, Nat.reduceAdd, Nat.reduceSub, reduceIte, reduceCtorEq, Nat.reduceBEq, Nat.reduceLT, decide_true, sz51, sz92])
        | (refine call_det hto (by simp [argsD, argD, valOf, Cs.s_unown]) rfl ?_)
        | (refine onI_bare (by simp only [InR]; omega) ?_)
        | (refine execG_split (fun h => ?_) (fun h => ?_) <;> simp only [h])
        | (refine execC_split (fun h => ?_) (fun h => ?_) <;> (try simp only [h]))
        | (refine onPick_split (fun h => ?_) (fun h => ?_) <;> (try simp only [h])))
    refine onC_i rfl ?_
    refine onI_bare (by simp only [InR]; omega) ?_
    have hfs : (dl oz ((xs.map some).take i ++ List.replicate (xs.length - i) none)).setN i r.o = dl oz ((xs.map some).take (i + 1) ++ List.replicate (xs.length - (i + 1)) none) := by
      have hl : xs.length = (xs.map (some : Cs → Option Cs)).length := by simp
      rw [show r.o = oz (some r) from rfl, dl_setN]
      conv => lhs; rw [hl]
      conv => rhs; rw [hl]
      rw [fill_step hrs]
    rw [hfs]
    exact ⟨i + 1, (weak_of _ rfl ⟨⟨rfl, rfl⟩, ⟨rfl, rfl⟩, ⟨rfl, rfl⟩, trivial⟩), by omega, by omega⟩
  · intro _ hd
    simp only [dl_len, hd, ↓wA, ↓wC, wB, frzBE, frzBS, Nat.reduceEqDiff, Nat.reduceAdd, Nat.reduceSub, reduceIte, reduceCtorEq, Nat.reduceBEq, Nat.reduceLT, decide_true, sz51, sz92]
    have h1 : (xs.map (some : Cs → Option Cs)).take xs.length = xs.map some := List.take_of_length_le (by simp)
    rw [h1, Nat.sub_self, List.replicate_zero, List.append_nil, dl_someC]
theorem toOffice_own (o : Off) (ho : o.ok0) : Fn prog 22 [o.s] (fun rs => rs = [o.o]) := by
  have h1 := toCaseS_own o.cs ho.1
  have h2 := toStringS_own o.led ho.2.1
  refine Fn_ofg (ps := [[1, 1, 1, 1, 1, 1, 1, 0], [1, 1, 1, 1, 1, 1, 1, 0], [1, 1, 1, 1, 1, 1, 1, 1], [1, 1, 1, 1, 1, 1, 1, 1]]) (fn := f22) (by exact func22) c22 r22 (n := 22) (by rfl) (rv := [.cell 2 51]) (by rfl) (by simp) ?_
  unfold m22
  simp only [ghAll, ghAt]
  simp only [Off.s, offP]
  repeat' (first
      | (simp only [css_noOwn, strs_noOwn, onC_true, ↓wA, ↓wC, wB, frzBE, frzBS, Nat.reduceEqDiff, Nat.reduceAdd, Nat.reduceSub, reduceIte, reduceCtorEq, Nat.reduceBEq, Nat.reduceLT, decide_true, sz51, sz92])
      | (refine call_det h1 rfl rfl ?_)
      | (refine call_det h2 rfl rfl ?_)
      | (refine execG_split (fun h => ?_) (fun h => ?_) <;> simp only [h])
      | (refine execC_split (fun h => ?_) (fun h => ?_) <;> (try simp only [h]))
      | (refine onPick_split (fun h => ?_) (fun h => ?_) <;> (try simp only [h])))
  refine exec_gh _ (unlink 2 none [1] (es := 4) (xs := dl Cs.o o.cs) rfl rfl) fun v1 => ?_
  simp only [obSet, css_noOwn, strs_noOwn, onC_true, ↓wA, ↓wC, wB, frzBE, frzBS, Nat.reduceEqDiff, Nat.reduceAdd, Nat.reduceSub, reduceIte, reduceCtorEq, Nat.reduceBEq, Nat.reduceLT, decide_true, sz51, sz92]
  refine exec_gh _ (unlink 2 none [4] (es := 1) (xs := dl D.str o.led) rfl rfl) fun v2 => ?_
  simp only [obSet, css_noOwn, strs_noOwn, onC_true, ↓wA, ↓wC, wB, frzBE, frzBS, Nat.reduceEqDiff, Nat.reduceAdd, Nat.reduceSub, reduceIte, reduceCtorEq, Nat.reduceBEq, Nat.reduceLT, decide_true, sz51, sz92]
  refine exec_gh1 (relink 1 6 5 none [1] rfl rfl rfl rfl (by decide) rfl) ?_
  simp only [obSet, css_noOwn, strs_noOwn, onC_true, ↓wA, ↓wC, wB, frzBE, frzBS, Nat.reduceEqDiff, Nat.reduceAdd, Nat.reduceSub, reduceIte, reduceCtorEq, Nat.reduceBEq, Nat.reduceLT, decide_true, sz51, sz92]
  refine exec_gh1 (relink 1 8 7 none [4] rfl rfl rfl rfl (by decide) rfl) ?_
  simp only [obSet, css_noOwn, strs_noOwn, onC_true, ↓wA, ↓wC, wB, frzBE, frzBS, Nat.reduceEqDiff, Nat.reduceAdd, Nat.reduceSub, reduceIte, reduceCtorEq, Nat.reduceBEq, Nat.reduceLT, decide_true, sz51, sz92]
  rfl
theorem toOffice_fn (o : Off) (ho : o.ok0) : Fn prog 22 [o.s] (fun rs => rs = [o.s]) := by
  have h := Fn_unown (toOffice_own o ho)
  simpa [Off.o_unown] using h
end Go.Pe.Tryd

set_option maxRecDepth 100000
set_option maxHeartbeats 4000000
set_option linter.all false
namespace Go.Pe.Tryd
open Go.Proofs.Tryd
/-- a set of bytes, as the library keeps it. -/
def setL (l : List UInt8) : List Bool := (List.range 256).map fun j => l.contains (UInt8.ofNat j)
def setD (l : List UInt8) : D := .st (dl D.bool (setL l))
theorem bools_rep {w : World} {M : Nat → Prop} : ∀ L : List Bool, (dl D.bool L).rep w M (L.map Value.bool) []
  | [] => ⟨rfl, rfl⟩
  | b :: L => ⟨[.bool b], _, [], [], rfl, rfl, ⟨rfl, rfl⟩, bools_rep L⟩
theorem setL_cells (l : List UInt8) : (Lib.setCells l).toList = (setL l).map Value.bool := by
  rw [Lib.setCells_eq]
  simp [setL, List.map_map, Function.comp_def]
theorem setL_at (l : List UInt8) (x : UInt8) : (setL l)[x.toNat]? = some (l.contains x) := by
  have h := x.toNat_lt
  simp only [setL, List.getElem?_map, List.getElem?_range h, Option.map_some, UInt8.ofNat_toNat]
theorem makeSet_fn (s : List UInt8) (h128 : ∀ b ∈ s, b.toNat < 128) (hl : s.length < 4000000000) : Fn prog 84 [.str s] (fun rs => rs = [setD s, .bool true]) := by
  intro M vs w hM hG hv
  obtain ⟨cs, us, f1, f2, rfl, e, ⟨rfl, _⟩, rfl, rfl⟩ := hv
  refine (Go.Proofs.Tryd.strings_makeASCIISet (fun w => by kernel_rfl) ⟨s.toArray⟩ w (by show s.toArray.size < _; simp; omega) ?_).mono ?_
  · intro j b hb
    exact h128 b (List.mem_of_getElem? (by simpa using hb))
  · rintro e w' ⟨rfl, rfl⟩
    refine ⟨[setD s, .bool true], [.agg (Lib.setCells s), .bool true], [], rfl, rfl, ⟨(Lib.setCells s).toList, [.bool true], [], [], rfl, rfl, ?_, ⟨[.bool true], [], [], [], rfl, rfl, ⟨rfl, rfl⟩, rfl, rfl⟩⟩, List.nodup_nil, (by simp), ext_alloc w _⟩
    rw [setL_cells]
    exact bools_rep _
theorem bools_pre : ∀ (L : List Bool) (n : Nat), n ≤ L.length → (dl D.bool L).pre n = n
  | _, 0, _ => by cases ‹List Bool› <;> rfl
  | [], n + 1, h => by simp at h
  | b :: L, n + 1, h => by
    have := bools_pre L n (by simpa using h)
    show 1 + (dl D.bool L).pre n = n + 1
    omega
theorem contains_fnS (l : List UInt8) (x : UInt8) : Fn prog 114 [.ptr (setD l), .int .u8 (x.toNat : Int)] (fun rs => rs = [.bool (l.contains x)]) := by
  have h256 := x.toNat_lt
  have hx := setL_at l x
  have hp := bools_pre (setL l) x.toNat (by simp [setL]; omega)
  have hp' : (dl D.bool (setL l)).pre x.toNat = x.toNat * 1 := by omega
  refine Fn_of' (fn := f114) (by exact func114) c114 r114 (n := 10) (by rfl) (rv := [.tmp 4]) (by rfl) (by simp) ?_
  unfold m114
  simp only [setD]
  repeat' (first
      | (simp only [onC_true, Int.toNat_natCast, hp', dl_nth, hx, Option.map_some, ↓wA, ↓wC, wB, frzBE, frzBS, Nat.reduceEqDiff, Nat.reduceAdd, Nat.reduceSub, reduceIte, reduceCtorEq, Nat.reduceBEq, Nat.reduceLT, decide_true])
      | (with_reducible refine onC_i ?_ ?_; focus omega)
      | (refine execG_split (fun h => ?_) (fun h => ?_) <;> simp only [h])
      | (refine execC_split (fun h => ?_) (fun h => ?_) <;> (try simp only [h]))
      | (refine onPick_split (fun h => ?_) (fun h => ?_) <;> (try simp only [h])))
def trimL (l s : List UInt8) : List UInt8 := s.dropWhile (fun b => l.contains b)
def trimR (l s : List UInt8) : List UInt8 := (s.reverse.dropWhile (fun b => l.contains b)).reverse
theorem trimL_fn (l s : List UInt8) (hl : s.length ≤ 1000000) : Fn prog 85 [.str s, .ptr (setD l)] (fun rs => rs = [.str (trimL l s)]) := by
  refine Fn_of' (fn := f85) (by exact func85) c85 r85 (n := 16) (by rfl) (rv := [.tmp 4]) (by rfl) (by simp) ?_
  unfold m85
  repeat' (first
      | (simp only [onC_true, ↓wA, ↓wC, wB, frzBE, frzBS, Nat.reduceEqDiff, Nat.reduceAdd, Nat.reduceSub, reduceIte, reduceCtorEq, Nat.reduceBEq, Nat.reduceLT, decide_true])
      | (refine execG_split (fun h => ?_) (fun h => ?_) <;> simp only [h])
      | (refine execC_split (fun h => ?_) (fun h => ?_) <;> (try simp only [h]))
      | (refine onPick_split (fun h => ?_) (fun h => ?_) <;> (try simp only [h])))
  refine exec_loop (fun t : List UInt8 => ⟨[(0, .d (.str t)), (1, .d (.ptr (setD l)))], []⟩) (fun t => trimL l t = trimL l s ∧ t.length ≤ 1000000) (fun t => t.length) s (weak_of _ rfl ⟨⟨rfl, rfl⟩, ⟨rfl, rfl⟩, trivial⟩) ⟨rfl, hl⟩ ?_
  rintro t ⟨h1, h2⟩
  cases t with
  | nil =>
    have hd : decide ((0 : Int) < ((0 : Nat) : Int)) = false := rfl
    repeat' (first
        | (simp only [onC_true, hd, ↓wA, ↓wC, wB, frzBE, frzBS, Nat.reduceEqDiff, Nat.reduceAdd, Nat.reduceSub, reduceIte, reduceCtorEq, Nat.reduceBEq, Nat.reduceLT, decide_true])
        | (refine execG_split (fun h => ?_) (fun h => ?_) <;> simp only [h])
        | (refine execC_split (fun h => ?_) (fun h => ?_) <;> (try simp only [h]))
        | (refine onPick_split (fun h => ?_) (fun h => ?_) <;> (try simp only [h])))
    all_goals (rw [← h1]; rfl)
  | cons b t =>
    have hd : decide ((0 : Int) < ((t.length + 1 : Nat) : Int)) = true := decide_eq_true (by omega)
    have hC := contains_fnS l b
    have h0 : (b :: t)[(0 : Int).toNat]? = some b := rfl
    have hdr : (b :: t).drop (1 : Int).toNat = t := rfl
    simp only [List.length_cons] at h2
    cases hb : l.contains b with
    | true =>
      rw [hb] at hC
      have e : trimL l (b :: t) = trimL l t := by unfold trimL; rw [List.dropWhile_cons, if_pos hb]
      repeat' (first
          | (simp only [onC_true, hd, h0, hdr, ↓wA, ↓wC, wB, frzBE, frzBS, Nat.reduceEqDiff, Nat.reduceAdd, Nat.reduceSub, reduceIte, reduceCtorEq, Nat.reduceBEq, Nat.reduceLT, decide_true])
          | (refine call_det (hC) rfl rfl ?_)
          | (refine callP_det (hC) rfl rfl ?_)
          | (with_reducible refine onC_i ?_ ?_; focus omega)
          | (with_reducible refine onC_i ?_ ?_; focus (simp; done))
          | (refine execG_split (fun h => ?_) (fun h => ?_) <;> simp only [h])
          | (refine execC_split (fun h => ?_) (fun h => ?_) <;> (try simp only [h]))
          | (refine onPick_split (fun h => ?_) (fun h => ?_) <;> (try simp only [h])))
      all_goals exact ⟨t, (weak_of _ rfl ⟨⟨rfl, rfl⟩, ⟨rfl, rfl⟩, trivial⟩), ⟨by rw [← e]; exact h1, by omega⟩, by simp⟩
    | false =>
      rw [hb] at hC
      have e : trimL l (b :: t) = b :: t := by unfold trimL; rw [List.dropWhile_cons, if_neg (by rw [hb]; decide)]
      repeat' (first
          | (simp only [onC_true, hd, h0, ↓wA, ↓wC, wB, frzBE, frzBS, Nat.reduceEqDiff, Nat.reduceAdd, Nat.reduceSub, reduceIte, reduceCtorEq, Nat.reduceBEq, Nat.reduceLT, decide_true])
          | (refine call_det (hC) rfl rfl ?_)
          | (refine callP_det (hC) rfl rfl ?_)
          | (with_reducible refine onC_i ?_ ?_; focus omega)
          | (refine execG_split (fun h => ?_) (fun h => ?_) <;> simp only [h])
          | (refine execC_split (fun h => ?_) (fun h => ?_) <;> (try simp only [h]))
          | (refine onPick_split (fun h => ?_) (fun h => ?_) <;> (try simp only [h])))
      all_goals (rw [← h1, e])
theorem trimR_snoc (l s : List UInt8) (b : UInt8) : trimR l (s ++ [b]) = if l.contains b = true then trimR l s else s ++ [b] := by
  unfold trimR
  rw [List.reverse_append, List.reverse_singleton, List.singleton_append, List.dropWhile_cons]
  split
  · rfl
  · simp
theorem trimR_fn (l s : List UInt8) (hl : s.length ≤ 1000000) : Fn prog 86 [.str s, .ptr (setD l)] (fun rs => rs = [.str (trimR l s)]) := by
  refine Fn_of' (fn := f86) (by exact func86) c86 r86 (n := 22) (by rfl) (rv := [.tmp 4]) (by rfl) (by simp) ?_
  unfold m86
  repeat' (first
      | (simp only [onC_true, ↓wA, ↓wC, wB, frzBE, frzBS, Nat.reduceEqDiff, Nat.reduceAdd, Nat.reduceSub, reduceIte, reduceCtorEq, Nat.reduceBEq, Nat.reduceLT, decide_true])
      | (refine execG_split (fun h => ?_) (fun h => ?_) <;> simp only [h])
      | (refine execC_split (fun h => ?_) (fun h => ?_) <;> (try simp only [h]))
      | (refine onPick_split (fun h => ?_) (fun h => ?_) <;> (try simp only [h])))
  refine exec_loop (fun t : List UInt8 => ⟨[(0, .d (.str t)), (1, .d (.ptr (setD l)))], []⟩) (fun t => trimR l t = trimR l s ∧ t.length ≤ 1000000) (fun t => t.length) s (weak_of _ rfl ⟨⟨rfl, rfl⟩, ⟨rfl, rfl⟩, trivial⟩) ⟨rfl, hl⟩ ?_
  rintro t ⟨h1, h2⟩
  rcases List.eq_nil_or_concat t with rfl | ⟨u, b, rfl⟩
  · have hd : decide ((0 : Int) < ((0 : Nat) : Int)) = false := rfl
    repeat' (first
        | (simp only [onC_true, hd, ↓wA, ↓wC, wB, frzBE, frzBS, Nat.reduceEqDiff, Nat.reduceAdd, Nat.reduceSub, reduceIte, reduceCtorEq, Nat.reduceBEq, Nat.reduceLT, decide_true])
        | (refine execG_split (fun h => ?_) (fun h => ?_) <;> simp only [h])
        | (refine execC_split (fun h => ?_) (fun h => ?_) <;> (try simp only [h]))
        | (refine onPick_split (fun h => ?_) (fun h => ?_) <;> (try simp only [h])))
    all_goals (rw [← h1]; rfl)
  · rw [List.concat_eq_append] at *
    have hlen : (u ++ [b]).length = u.length + 1 := by simp
    rw [hlen] at h2
    have hd : decide ((0 : Int) < ((u.length + 1 : Nat) : Int)) = true := decide_eq_true (by omega)
    have hC := contains_fnS l b
    have hn : (((u.length + 1 : Nat) : Int) - 1).toNat = u.length := by omega
    have h0 : (u ++ [b])[u.length]? = some b := by simp
    have htk : (u ++ [b]).take u.length = u := by simp
    have e := trimR_snoc l u b
    cases hb : l.contains b with
    | true =>
      rw [hb] at hC
      rw [if_pos hb] at e
      repeat' (first
          | (simp only [onC_true, hlen, hd, hn, h0, htk, ↓wA, ↓wC, wB, frzBE, frzBS, Nat.reduceEqDiff, Nat.reduceAdd, Nat.reduceSub, reduceIte, reduceCtorEq, Nat.reduceBEq, Nat.reduceLT, decide_true])
          | (refine call_det (hC) rfl rfl ?_)
          | (refine callP_det (hC) rfl rfl ?_)
          | (with_reducible refine onI_bare ?_ ?_; focus (simp only [InR]; omega))
          | (with_reducible refine onC_i ?_ ?_; focus omega)
          | (refine execG_split (fun h => ?_) (fun h => ?_) <;> simp only [h])
          | (refine execC_split (fun h => ?_) (fun h => ?_) <;> (try simp only [h]))
          | (refine onPick_split (fun h => ?_) (fun h => ?_) <;> (try simp only [h])))
      all_goals exact ⟨u, (weak_of _ rfl ⟨⟨rfl, rfl⟩, ⟨rfl, rfl⟩, trivial⟩), ⟨by rw [← e]; exact h1, by omega⟩, by simp⟩
    | false =>
      rw [hb] at hC
      rw [if_neg (by rw [hb]; decide)] at e
      repeat' (first
          | (simp only [onC_true, hlen, hd, hn, h0, ↓wA, ↓wC, wB, frzBE, frzBS, Nat.reduceEqDiff, Nat.reduceAdd, Nat.reduceSub, reduceIte, reduceCtorEq, Nat.reduceBEq, Nat.reduceLT, decide_true])
          | (refine call_det (hC) rfl rfl ?_)
          | (refine callP_det (hC) rfl rfl ?_)
          | (with_reducible refine onI_bare ?_ ?_; focus (simp only [InR]; omega))
          | (with_reducible refine onC_i ?_ ?_; focus omega)
          | (refine execG_split (fun h => ?_) (fun h => ?_) <;> simp only [h])
          | (refine execC_split (fun h => ?_) (fun h => ?_) <;> (try simp only [h]))
          | (refine onPick_split (fun h => ?_) (fun h => ?_) <;> (try simp only [h])))
      all_goals (rw [← h1, e])
/-- what may stand in an entry. -/
def cutSet : List UInt8 := [97, 98, 99, 100, 101, 102, 103, 104, 105, 106, 107, 108, 109, 110, 111, 112, 113, 114, 115, 116, 117, 118, 119, 120, 121, 122, 48, 49, 50, 51, 52, 53, 54, 55, 56, 57, 32, 45]
def eB (b : UInt8) : Bool := within (b.toNat : Int) 97 122 || within (b.toNat : Int) 48 57 || decide ((b.toNat : Int) = 32) || decide ((b.toNat : Int) = 45)
theorem cut_eB (b : UInt8) : cutSet.contains b = eB b := by
  have h : ∀ n, n < 256 → cutSet.contains (UInt8.ofNat n) = eB (UInt8.ofNat n) := by decide
  have := h b.toNat b.toNat_lt
  rwa [UInt8.ofNat_toNat] at this
theorem dropWhile_nil {p : UInt8 → Bool} : ∀ (s : List UInt8), s.dropWhile p = [] ↔ s.all p = true
  | [] => by simp
  | b :: s => by
    rw [List.dropWhile_cons]
    cases hb : p b with
    | true => simp [hb, dropWhile_nil s]
    | false => simp [hb]
theorem trim_nilN (l : List UInt8) : ∀ (n : Nat) (s : List UInt8), s.length = n → (trimL l (trimR l s) = [] ↔ s.all (fun b => l.contains b) = true) := by
  intro n
  induction n with
  | zero =>
    intro s hs
    obtain rfl := List.eq_nil_of_length_eq_zero hs
    simp [trimL, trimR]
  | succ n IH =>
  intro s hs
  unfold trimL
  rw [dropWhile_nil]
  rcases List.eq_nil_or_concat s with rfl | ⟨u, b, rfl⟩
  · simp [trimR]
  · rw [List.concat_eq_append, trimR_snoc]
    split
    · rename_i hb
      have ih := IH u (by simpa using hs)
      unfold trimL at ih
      rw [dropWhile_nil] at ih
      rw [ih, List.all_append]
      simp only [List.all_cons, List.all_nil, hb, Bool.and_true]
    · rfl
theorem trim_nil (l s : List UInt8) : trimL l (trimR l s) = [] ↔ s.all (fun b => l.contains b) = true := trim_nilN l _ s rfl
def entryOK (s : List UInt8) : Bool := within s.length 1 40 && s.all eB
def zSet : D := .st (ofL (List.replicate 256 (D.bool false)))
theorem setD_noOwn (l : List UInt8) : (setD l).noOwn = true := dl_noOwn (f := D.bool) (fun _ => rfl) (setL l)
theorem setD_unown (l : List UInt8) : (setD l).unown = setD l := by
  show D.st (dl D.bool (setL l)).unown = _
  rw [dl_unown (fun _ => rfl)]; rfl
theorem bools_size : ∀ L : List Bool, (dl D.bool L).size = L.length
  | [] => rfl
  | b :: L => by
    have := bools_size L
    show 1 + (dl D.bool L).size = L.length + 1
    omega
theorem setD_size (l : List UInt8) : (setD l).size = 256 := by
  show (dl D.bool (setL l)).size = 256
  rw [bools_size]; simp [setL]
theorem trim_fn (s : List UInt8) (h0 : 0 < s.length) (hl : s.length ≤ 1000) : Fn prog 64 [.str s, .str cutSet] (fun rs => rs = [.str (trimL cutSet (trimR cutSet s))]) := by
  have hM := makeSet_fn cutSet (by decide) (by decide)
  have hR := trimR_fn cutSet s (by omega)
  have hrl : (trimR cutSet s).length ≤ s.length := by
    unfold trimR
    have := (List.dropWhile_sublist (p := fun b => cutSet.contains b) (l := s.reverse)).length_le
    simpa using this
  have hL := trimL_fn cutSet (trimR cutSet s) (by omega)
  have d1 : decide (s = []) = false := decide_eq_false (fun h => by rw [h] at h0; simp at h0)
  have d2 : decide (cutSet = []) = false := rfl
  have d3 : decide ((cutSet.length : Int) = 1) = false := rfl
  have n1 : (setD cutSet).noOwn = true := setD_noOwn _
  have n2 : (setD cutSet).isV = true := rfl
  have n3 := setD_size cutSet
  have n4 : (setD cutSet).unown = setD cutSet := setD_unown _
  have hz : D.st (ofL (List.replicate 256 (D.bool false))) = zSet := rfl
  have n5 : zSet.size = 256 := rfl
  refine Fn_ofg (ps := [[1, 1, 1, 0, 1, 1, 0, 0]]) (fn := f64) (by exact func64) c64 r64 (n := 43) (by rfl) (rv := [.tmp 4]) (by rfl) (by simp) ?_
  unfold m64
  simp only [ghAll, ghAt]
  rw [hz]
  generalize zSet = Z at n5
  repeat' (first
      | (simp only [onC_true, d1, d2, d3, n1, n2, n3, n5, ↓wA, ↓wC, wB, frzBE, frzBS, Nat.reduceEqDiff, Nat.reduceAdd, Nat.reduceSub, reduceIte, reduceCtorEq, Nat.reduceBEq, Nat.reduceLT, decide_true])
      | (refine call_det (hM) rfl rfl ?_)
      | (refine callP_det (hM) rfl rfl ?_)
      | (refine execG_split (fun h => ?_) (fun h => ?_) <;> simp only [h])
      | (refine execC_split (fun h => ?_) (fun h => ?_) <;> (try simp only [h]))
      | (refine onPick_split (fun h => ?_) (fun h => ?_) <;> (try simp only [h])))
  refine exec_gh1 (frzB 0 rfl) ?_
  repeat' (first
      | (simp only [onC_true, n4, ↓wA, ↓wC, wB, frzBE, frzBS, Nat.reduceEqDiff, Nat.reduceAdd, Nat.reduceSub, reduceIte, reduceCtorEq, Nat.reduceBEq, Nat.reduceLT, decide_true])
      | (refine call_det (hR) rfl rfl ?_)
      | (refine callP_det (hR) rfl rfl ?_)
      | (refine call_det (hL) rfl rfl ?_)
      | (refine callP_det (hL) rfl rfl ?_)
      | (refine execG_split (fun h => ?_) (fun h => ?_) <;> simp only [h])
      | (refine execC_split (fun h => ?_) (fun h => ?_) <;> (try simp only [h]))
      | (refine onPick_split (fun h => ?_) (fun h => ?_) <;> (try simp only [h])))
  all_goals trace_state
end Go.Pe.Tryd

set_option maxRecDepth 100000
set_option maxHeartbeats 4000000
set_option linter.all false
namespace Go.Pe.Tryd
open Go.Proofs.Tryd
theorem within_len (n : Nat) : within (n : Int) 1 40 = true → 0 < n ∧ n ≤ 40 := by
  intro h
  simp only [within, Bool.and_eq_true, decide_eq_true_eq] at h
  omega
theorem isEntry_fn (s : List UInt8) : Fn prog 99 [.str s] (fun rs => rs = [.bool (entryOK s)]) := by
  unfold entryOK
  cases hw : within (s.length : Int) 1 40 with
  | false =>
    have hW := within_fn (s.length : Int) 1 40
    rw [hw] at hW
    refine Fn_of' (fn := f99) (by exact func99) c99 r99 (n := 11) (by rfl) (rv := [.tmp 2]) (by rfl) (by simp) ?_
    unfold m99
    repeat' (first
        | (simp only [↓wA, ↓wC, wB, frzBE, frzBS, Nat.reduceEqDiff, Nat.reduceAdd, Nat.reduceSub, reduceIte, reduceCtorEq, Nat.reduceBEq, Nat.reduceLT, decide_true])
        | (refine call_det (hW) rfl rfl ?_)
        | (refine callP_det (hW) rfl rfl ?_)
        | (refine execG_split (fun h => ?_) (fun h => ?_) <;> simp only [h])
        | (refine execC_split (fun h => ?_) (fun h => ?_) <;> (try simp only [h]))
        | (refine onPick_split (fun h => ?_) (fun h => ?_) <;> (try simp only [h])))
    all_goals rfl
  | true =>
    have hW := within_fn (s.length : Int) 1 40
    rw [hw] at hW
    have hl := within_len _ hw
    have hT := trim_fn s hl.1 (by omega)
    have he : decide (trimL cutSet (trimR cutSet s) = []) = s.all eB := by
      have h1 := trim_nil cutSet s
      have h2 : (s.all fun b => cutSet.contains b) = s.all eB := by
        congr 1
        funext b
        exact cut_eB b
      rw [h2] at h1
      cases hb : s.all eB with
      | true => exact decide_eq_true (h1.2 hb)
      | false => exact decide_eq_false (fun h => by rw [h1.1 h] at hb; cases hb)
    simp only [cutSet] at hT he
    refine Fn_of' (fn := f99) (by exact func99) c99 r99 (n := 11) (by rfl) (rv := [.tmp 2]) (by rfl) (by simp) ?_
    unfold m99
    repeat' (first
        | (simp only [↓wA, ↓wC, wB, frzBE, frzBS, Nat.reduceEqDiff, Nat.reduceAdd, Nat.reduceSub, reduceIte, reduceCtorEq, Nat.reduceBEq, Nat.reduceLT, decide_true])
        | (refine call_det (hW) rfl rfl ?_)
        | (refine callP_det (hW) rfl rfl ?_)
        | (refine call_det (hT) rfl rfl ?_)
        | (refine callP_det (hT) rfl rfl ?_)
        | (refine execG_split (fun h => ?_) (fun h => ?_) <;> simp only [h])
        | (refine execC_split (fun h => ?_) (fun h => ?_) <;> (try simp only [h]))
        | (refine onPick_split (fun h => ?_) (fun h => ?_) <;> (try simp only [h])))
    all_goals exact congrArg (fun b => [D.bool b]) he
theorem l15Letter_fn (b : UInt8) : Fn prog 119 [.int .u8 (b.toNat : Int)] (fun rs => rs = [.bool (within (b.toNat : Int) 97 122)]) := by
  refine Fn_of' (fn := f119) (by exact func119) c119 r119 (n := 9) (by rfl) (rv := [.tmp 2]) (by rfl) (by simp) ?_
  unfold m119
  repeat' (first
      | (simp only [↓wA, ↓wC, wB, frzBE, frzBS, Nat.reduceEqDiff, Nat.reduceAdd, Nat.reduceSub, reduceIte, reduceCtorEq, Nat.reduceBEq, Nat.reduceLT, decide_true])
      | (refine execG_split (fun h => ?_) (fun h => ?_) <;> simp only [h])
      | (refine execC_split (fun h => ?_) (fun h => ?_) <;> (try simp only [h]))
      | (refine onPick_split (fun h => ?_) (fun h => ?_) <;> (try simp only [h])))
  all_goals first | (simp_all [within]; done) | (simp_all [within]; intros; omega)
theorem l16Entry_fn (s : List UInt8) (hl : s.length ≤ 1048576) : Fn prog 92 [.str s] (fun rs => rs = [.bool (entryOK s)]) := by
  have hW := l1In_fn (s.length : Int) 1 40
  unfold entryOK
  refine Fn_of' (fn := f92) (by exact func92) c92 r92 (n := 37) (by rfl) (rv := [.tmp 2]) (by rfl) (by simp) ?_
  unfold m92
  repeat' (first
      | (simp only [onC_true, ↓wA, ↓wC, wB, frzBE, frzBS, Nat.reduceEqDiff, Nat.reduceAdd, Nat.reduceSub, reduceIte, reduceCtorEq, Nat.reduceBEq, Nat.reduceLT, decide_true])
      | (refine execG_split (fun h => ?_) (fun h => ?_) <;> simp only [h])
      | (refine execC_split (fun h => ?_) (fun h => ?_) <;> (try simp only [h]))
      | (refine onPick_split (fun h => ?_) (fun h => ?_) <;> (try simp only [h])))
  refine exec_range s.length (fun i : Nat => ⟨[(0, .d (.str s)), (3, .d (.int .i64 i))], []⟩) (fun i => ∀ j b, j < i → s[j]? = some b → eB b = true) (weak_of _ rfl ⟨⟨rfl, rfl⟩, ⟨rfl, rfl⟩, trivial⟩) (fun j r hj => by omega) ?_ ?_
  · intro i hlt hinv hd h0
    obtain ⟨b, hb⟩ := get_lt hlt
    have hL := l15Letter_fn b
    have hbad : eB b = false → (within (s.length : Int) 1 40 && s.all eB) = false := by
      intro h
      have : s.all eB = false := List.all_eq_false.2 ⟨b, List.mem_of_getElem? hb, by rw [h]; simp⟩
      rw [this, Bool.and_false]
    have hgood : eB b = true → ∀ j c, j < i + 1 → s[j]? = some c → eB c = true := by
      intro h j c hj hc
      by_cases e : j = i
      · subst e; rw [hb] at hc; injection hc with hc; rw [← hc]; exact h
      · exact hinv j c (by omega) hc
    cases hlt1 : within (b.toNat : Int) 97 122 with
    | true =>
      rw [hlt1] at hL
      have hg := hgood (by unfold eB; rw [hlt1]; rfl)
      repeat' (first
          | (simp only [onC_true, hd, h0, hb, Int.toNat_natCast, ↓wA, ↓wC, wB, frzBE, frzBS, Nat.reduceEqDiff, Nat.reduceAdd, Nat.reduceSub, reduceIte, reduceCtorEq, Nat.reduceBEq, Nat.reduceLT, decide_true])
          | (refine call_det (hL) rfl rfl ?_)
          | (refine callP_det (hL) rfl rfl ?_)
          | (with_reducible refine onI_bare ?_ ?_; focus (simp only [InR]; omega))
          | (refine execG_split (fun h => ?_) (fun h => ?_) <;> simp only [h])
          | (refine execC_split (fun h => ?_) (fun h => ?_) <;> (try simp only [h]))
          | (refine onPick_split (fun h => ?_) (fun h => ?_) <;> (try simp only [h])))
      all_goals exact next_range (weak_of _ rfl ⟨⟨rfl, rfl⟩, ⟨rfl, rfl⟩, trivial⟩) hlt hg
    | false =>
      rw [hlt1] at hL
      repeat' (first
          | (simp only [onC_true, hd, h0, hb, Int.toNat_natCast, ↓wA, ↓wC, wB, frzBE, frzBS, Nat.reduceEqDiff, Nat.reduceAdd, Nat.reduceSub, reduceIte, reduceCtorEq, Nat.reduceBEq, Nat.reduceLT, decide_true])
          | (refine call_det (hL) rfl rfl ?_)
          | (refine callP_det (hL) rfl rfl ?_)
          | (with_reducible refine onI_bare ?_ ?_; focus (simp only [InR]; omega))
          | (refine execG_split (fun h => ?_) (fun h => ?_) <;> simp only [h])
          | (refine execC_split (fun h => ?_) (fun h => ?_) <;> (try simp only [h]))
          | (refine onPick_split (fun h => ?_) (fun h => ?_) <;> (try simp only [h])))
      all_goals first
        | (refine next_range (weak_of _ rfl ⟨⟨rfl, rfl⟩, ⟨rfl, rfl⟩, trivial⟩) hlt (hgood ?_); focus (clear hL hW hgood hbad; simp_all [eB, within]; done))
        | (refine (congrArg (fun x => [D.bool x]) (hbad ?_)).symm; focus (clear hL hW hgood hbad; simp_all [eB, within]; done))
        | (refine (congrArg (fun x => [D.bool x]) (hbad ?_)).symm; focus (clear hL hW hgood hbad hinv; simp_all [eB, within]; intros; omega))
        | (refine (congrArg (fun x => [D.bool x]) (hbad ?_)).symm; focus (clear hL hW hgood hbad hinv; simp_all [eB, within]; omega))
        | trace_state
  · intro hinv hd
    have : s.all eB = true := List.all_eq_true.2 fun b hb => by
      obtain ⟨j, hj⟩ := List.getElem?_of_mem hb
      exact hinv j b (lt_of_get hj) hj
    rw [this, Bool.and_true]
    repeat' (first
        | (simp only [onC_true, hd, ↓wA, ↓wC, wB, frzBE, frzBS, Nat.reduceEqDiff, Nat.reduceAdd, Nat.reduceSub, reduceIte, reduceCtorEq, Nat.reduceBEq, Nat.reduceLT, decide_true])
        | (refine call_det (hW) rfl rfl ?_)
        | (refine callP_det (hW) rfl rfl ?_)
        | (refine execG_split (fun h => ?_) (fun h => ?_) <;> simp only [h])
        | (refine execC_split (fun h => ?_) (fun h => ?_) <;> (try simp only [h]))
        | (refine onPick_split (fun h => ?_) (fun h => ?_) <;> (try simp only [h])))
def ledgerOK (L : List (List UInt8)) : Bool := within L.length 1 8 && L.all entryOK
theorem cloEntry_fn (s : List UInt8) : Fn prog 98 [.str s] (fun rs => rs = [.bool (!entryOK s)]) := by
  refine Fn_of' (fn := f98) (by exact func98) c98 r98 (n := 6) (by rfl) (rv := [.tmp 2]) (by rfl) (by simp) ?_
  unfold m98
  repeat' (first
      | (simp only [↓wA, ↓wC, wB, frzBE, frzBS, Nat.reduceEqDiff, Nat.reduceAdd, Nat.reduceSub, reduceIte, reduceCtorEq, Nat.reduceBEq, Nat.reduceLT, decide_true])
      | (refine call_det (isEntry_fn s) rfl rfl ?_)
      | (refine callP_det (isEntry_fn s) rfl rfl ?_)
      | (refine execG_split (fun h => ?_) (fun h => ?_) <;> simp only [h])
      | (refine execC_split (fun h => ?_) (fun h => ?_) <;> (try simp only [h]))
      | (refine onPick_split (fun h => ?_) (fun h => ?_) <;> (try simp only [h])))
/-- indexFuncT: the first element of which a test holds. -/
theorem indexFuncT_fn (p : (List UInt8) → Bool) (g : Nat) (c : D) (xs : List (List UInt8)) (hc : c.caps = true) (he : enterOK prog.P g = true) (hlen : xs.length ≤ 1048576) (hp : ∀ x ∈ xs, Fn prog g (D.str x :: c.list) (fun rs => rs = [.bool (p x)])) :
    Fn prog 121 [.sl false 1 (dl D.str xs), .clo g c] (fun rs => rs = [.int .i64 (idxOf p xs)]) := by
  refine Fn_of' (fn := f121) (by exact func121) c121 r121 (n := 19) (by rfl) (rv := [.tmp 4]) (by rfl) (by simp) ?_
  unfold m121
  simp only [dl_len, ↓wA, ↓wC, wB, frzBE, frzBS, Nat.reduceEqDiff, Nat.reduceAdd, Nat.reduceSub, reduceIte, reduceCtorEq, Nat.reduceBEq, Nat.reduceLT, decide_true]
  refine exec_range xs.length (fun i : Nat => ⟨[(0, .d (.sl false 1 (dl D.str xs))), (1, .d (.clo g c)), (7, .d (.int .i64 xs.length)), (8, .d (.int .i64 i))], []⟩) (fun i => ∀ j r, j < i → xs[j]? = some r → p r = false) (weak_of _ rfl ⟨⟨rfl, rfl⟩, ⟨rfl, rfl⟩, ⟨rfl, rfl⟩, ⟨rfl, rfl⟩, trivial⟩) (fun j r hj => by omega) ?_ ?_
  · intro i hlt hinv hd h0
    obtain ⟨r, hr⟩ := get_lt hlt
    have hcl := hp r (List.mem_of_getElem? hr)
    simp only [hd, h0, dl_nth, Int.toNat_natCast, hr, Option.map_some, onC_true, ↓rd_str, ↓wA, ↓wC, wB, frzBE, frzBS, Nat.reduceEqDiff, Nat.reduceAdd, Nat.reduceSub, reduceIte, reduceCtorEq, Nat.reduceBEq, Nat.reduceLT, decide_true]
    refine callW_det (ds := [D.str r]) hcl he hc (by simp [argsD, argD, valOf, D.str]) rfl ?_
    cases hpr : p r with
    | true =>
      simp only [↓wA, ↓wC, wB, frzBE, frzBS, Nat.reduceEqDiff, Nat.reduceAdd, Nat.reduceSub, reduceIte, reduceCtorEq, Nat.reduceBEq, Nat.reduceLT, decide_true]
      rw [idxOf_hit hr hpr hinv]
    | false =>
      simp only [↓wA, ↓wC, wB, frzBE, frzBS, Nat.reduceEqDiff, Nat.reduceAdd, Nat.reduceSub, reduceIte, reduceCtorEq, Nat.reduceBEq, Nat.reduceLT, decide_true]
      refine onI_bare (by simp only [InR]; omega) ?_
      refine next_range (weak_of _ rfl ⟨⟨rfl, rfl⟩, ⟨rfl, rfl⟩, ⟨rfl, rfl⟩, ⟨rfl, rfl⟩, trivial⟩) hlt fun j s hj hs => ?_
      by_cases e : j = i
      · subst e; rw [hr] at hs; injection hs with hs; rw [← hs]; exact hpr
      · exact hinv j s (by omega) hs
  · intro hinv hd
    simp only [hd, ↓wA, ↓wC, wB, frzBE, frzBS, Nat.reduceEqDiff, Nat.reduceAdd, Nat.reduceSub, reduceIte, reduceCtorEq, Nat.reduceBEq, Nat.reduceLT, decide_true]
    rw [idxOf_none fun j r hj => hinv j r (lt_of_get hj) hj]
/-- containsFuncT: is there an element of which a test holds? -/
theorem containsFuncT_fn (p : (List UInt8) → Bool) (g : Nat) (c : D) (xs : List (List UInt8)) (hc : c.caps = true) (he : enterOK prog.P g = true) (hlen : xs.length ≤ 1048576) (hp : ∀ x ∈ xs, Fn prog g (D.str x :: c.list) (fun rs => rs = [.bool (p x)])) :
    Fn prog 97 [.sl false 1 (dl D.str xs), .clo g c] (fun rs => rs = [.bool (xs.any p)]) := by
  refine Fn_of' (fn := f97) (by exact func97) c97 r97 (n := 9) (by rfl) (rv := [.tmp 4]) (by rfl) (by simp) ?_
  unfold m97
  simp only [↓wA, ↓wC, wB, frzBE, frzBS, Nat.reduceEqDiff, Nat.reduceAdd, Nat.reduceSub, reduceIte, reduceCtorEq, Nat.reduceBEq, Nat.reduceLT, decide_true]
  refine call_det (indexFuncT_fn p g c xs hc he hlen hp) rfl rfl ?_
  simp only [idxOf_any, ↓wA, ↓wC, wB, frzBE, frzBS, Nat.reduceEqDiff, Nat.reduceAdd, Nat.reduceSub, reduceIte, reduceCtorEq, Nat.reduceBEq, Nat.reduceLT, decide_true]
theorem isLedger_fn (L : List (List UInt8)) (hl : L.length ≤ 1048576) : Fn prog 75 [.sl false 1 (dl D.str L)] (fun rs => rs = [.bool (ledgerOK L)]) := by
  have hW := within_fn (L.length : Int) 1 8
  have hC := containsFuncT_fn (fun s => !entryOK s) 98 .nil L rfl en98 hl (fun s _ => cloEntry_fn s)
  rw [any_not] at hC
  unfold ledgerOK
  cases hw : within (L.length : Int) 1 8 with
  | false =>
    rw [hw] at hW
    refine Fn_of' (fn := f75) (by exact func75) c75 r75 (n := 11) (by rfl) (rv := [.tmp 2]) (by rfl) (by simp) ?_
    unfold m75
    repeat' (first
        | (simp only [dl_len, ↓wA, ↓wC, wB, frzBE, frzBS, Nat.reduceEqDiff, Nat.reduceAdd, Nat.reduceSub, reduceIte, reduceCtorEq, Nat.reduceBEq, Nat.reduceLT, decide_true])
        | (refine call_det (hW) rfl rfl ?_)
        | (refine callP_det (hW) rfl rfl ?_)
        | (refine execG_split (fun h => ?_) (fun h => ?_) <;> simp only [h])
        | (refine execC_split (fun h => ?_) (fun h => ?_) <;> (try simp only [h]))
        | (refine onPick_split (fun h => ?_) (fun h => ?_) <;> (try simp only [h])))
    all_goals rfl
  | true =>
    rw [hw] at hW
    refine Fn_of' (fn := f75) (by exact func75) c75 r75 (n := 11) (by rfl) (rv := [.tmp 2]) (by rfl) (by simp) ?_
    unfold m75
    repeat' (first
        | (simp only [dl_len, ↓wA, ↓wC, wB, frzBE, frzBS, Nat.reduceEqDiff, Nat.reduceAdd, Nat.reduceSub, reduceIte, reduceCtorEq, Nat.reduceBEq, Nat.reduceLT, decide_true])
        | (refine call_det (hW) rfl rfl ?_)
        | (refine callP_det (hW) rfl rfl ?_)
        | (refine call_det (hC) rfl rfl ?_)
        | (refine callP_det (hC) rfl rfl ?_)
        | (refine execG_split (fun h => ?_) (fun h => ?_) <;> simp only [h])
        | (refine execC_split (fun h => ?_) (fun h => ?_) <;> (try simp only [h]))
        | (refine onPick_split (fun h => ?_) (fun h => ?_) <;> (try simp only [h])))
    all_goals simp
theorem l16Good_fn (L : List (List UInt8)) (hl : L.length ≤ 1048576) (hx : ∀ s ∈ L, s.length ≤ 1048576) : Fn prog 69 [.sl false 1 (dl D.str L)] (fun rs => rs = [.bool (ledgerOK L)]) := by
  have hW := l1In_fn (L.length : Int) 1 8
  unfold ledgerOK
  refine Fn_of' (fn := f69) (by exact func69) c69 r69 (n := 19) (by rfl) (rv := [.tmp 2]) (by rfl) (by simp) ?_
  unfold m69
  repeat' (first
      | (simp only [onC_true, ↓wA, ↓wC, wB, frzBE, frzBS, Nat.reduceEqDiff, Nat.reduceAdd, Nat.reduceSub, reduceIte, reduceCtorEq, Nat.reduceBEq, Nat.reduceLT, decide_true])
      | (refine execG_split (fun h => ?_) (fun h => ?_) <;> simp only [h])
      | (refine execC_split (fun h => ?_) (fun h => ?_) <;> (try simp only [h]))
      | (refine onPick_split (fun h => ?_) (fun h => ?_) <;> (try simp only [h])))
  refine exec_range L.length (fun i : Nat => ⟨[(0, .d (.sl false 1 (dl D.str L))), (3, .d (.int .i64 i))], []⟩) (fun i => ∀ j b, j < i → L[j]? = some b → entryOK b = true) (weak_of _ rfl ⟨⟨rfl, rfl⟩, ⟨rfl, rfl⟩, trivial⟩) (fun j r hj => by omega) ?_ ?_
  · intro i hlt hinv hd h0
    obtain ⟨b, hb⟩ := get_lt hlt
    have hE := l16Entry_fn b (hx b (List.mem_of_getElem? hb))
    cases hbo : entryOK b with
    | false =>
      rw [hbo] at hE
      have : L.all entryOK = false := List.all_eq_false.2 ⟨b, List.mem_of_getElem? hb, by rw [hbo]; simp⟩
      rw [this, Bool.and_false]
      repeat' (first
          | (simp only [onC_true, dl_len, dl_nth, hd, h0, hb, Int.toNat_natCast, Option.map_some, ↓wA, ↓wC, wB, frzBE, frzBS, Nat.reduceEqDiff, Nat.reduceAdd, Nat.reduceSub, reduceIte, reduceCtorEq, Nat.reduceBEq, Nat.reduceLT, decide_true])
          | (refine call_det (hE) rfl rfl ?_)
          | (refine callP_det (hE) rfl rfl ?_)
          | (with_reducible refine onI_bare ?_ ?_; focus (simp only [InR]; omega))
          | (refine execG_split (fun h => ?_) (fun h => ?_) <;> simp only [h])
          | (refine execC_split (fun h => ?_) (fun h => ?_) <;> (try simp only [h]))
          | (refine onPick_split (fun h => ?_) (fun h => ?_) <;> (try simp only [h])))
    | true =>
      rw [hbo] at hE
      repeat' (first
          | (simp only [onC_true, dl_len, dl_nth, hd, h0, hb, Int.toNat_natCast, Option.map_some, ↓wA, ↓wC, wB, frzBE, frzBS, Nat.reduceEqDiff, Nat.reduceAdd, Nat.reduceSub, reduceIte, reduceCtorEq, Nat.reduceBEq, Nat.reduceLT, decide_true])
          | (refine call_det (hE) rfl rfl ?_)
          | (refine callP_det (hE) rfl rfl ?_)
          | (with_reducible refine onI_bare ?_ ?_; focus (simp only [InR]; omega))
          | (refine execG_split (fun h => ?_) (fun h => ?_) <;> simp only [h])
          | (refine execC_split (fun h => ?_) (fun h => ?_) <;> (try simp only [h]))
          | (refine onPick_split (fun h => ?_) (fun h => ?_) <;> (try simp only [h])))
      refine next_range (weak_of _ rfl ⟨⟨rfl, rfl⟩, ⟨rfl, rfl⟩, trivial⟩) hlt fun j c hj hc => ?_
      by_cases e : j = i
      · subst e; rw [hb] at hc; injection hc with hc; rw [← hc]; exact hbo
      · exact hinv j c (by omega) hc
  · intro hinv hd
    have : L.all entryOK = true := List.all_eq_true.2 fun b hb => by
      obtain ⟨j, hj⟩ := List.getElem?_of_mem hb
      exact hinv j b (lt_of_get hj) hj
    rw [this, Bool.and_true]
    repeat' (first
        | (simp only [onC_true, dl_len, hd, ↓wA, ↓wC, wB, frzBE, frzBS, Nat.reduceEqDiff, Nat.reduceAdd, Nat.reduceSub, reduceIte, reduceCtorEq, Nat.reduceBEq, Nat.reduceLT, decide_true])
        | (refine call_det (hW) rfl rfl ?_)
        | (refine callP_det (hW) rfl rfl ?_)
        | (refine execG_split (fun h => ?_) (fun h => ?_) <;> simp only [h])
        | (refine execC_split (fun h => ?_) (fun h => ?_) <;> (try simp only [h]))
        | (refine onPick_split (fun h => ?_) (fun h => ?_) <;> (try simp only [h])))
/-- is a case valid? -/
def caseOK (x : Cs) : Bool := within x.i 1 999 && within x.a 1 3 && within x.d 0 20000 && decide ((x.h.length : Int) ≤ 5) && (x.h.all (fun n => within n 1 9) && rises x.h)
theorem isRecordId_fn (n : Int) : Fn prog 100 [.int .i64 n] (fun rs => rs = [.bool (within n 1 999)]) := by
  refine Fn_of' (fn := f100) (by exact func100) c100 r100 (n := 5) (by rfl) (rv := [.tmp 2]) (by rfl) (by simp) ?_
  unfold m100
  repeat' (first
      | (simp only [↓wA, ↓wC, wB, frzBE, frzBS, Nat.reduceEqDiff, Nat.reduceAdd, Nat.reduceSub, reduceIte, reduceCtorEq, Nat.reduceBEq, Nat.reduceLT, decide_true])
      | (refine call_det (within_fn _ _ _) rfl rfl ?_)
      | (refine callP_det (within_fn _ _ _) rfl rfl ?_)
      | (refine execG_split (fun h => ?_) (fun h => ?_) <;> simp only [h])
      | (refine execC_split (fun h => ?_) (fun h => ?_) <;> (try simp only [h]))
      | (refine onPick_split (fun h => ?_) (fun h => ?_) <;> (try simp only [h])))
theorem isAct_fn (n : Int) : Fn prog 101 [.int .i64 n] (fun rs => rs = [.bool (within n 1 3)]) := by
  refine Fn_of' (fn := f101) (by exact func101) c101 r101 (n := 5) (by rfl) (rv := [.tmp 2]) (by rfl) (by simp) ?_
  unfold m101
  repeat' (first
      | (simp only [↓wA, ↓wC, wB, frzBE, frzBS, Nat.reduceEqDiff, Nat.reduceAdd, Nat.reduceSub, reduceIte, reduceCtorEq, Nat.reduceBEq, Nat.reduceLT, decide_true])
      | (refine call_det (within_fn _ _ _) rfl rfl ?_)
      | (refine callP_det (within_fn _ _ _) rfl rfl ?_)
      | (refine execG_split (fun h => ?_) (fun h => ?_) <;> simp only [h])
      | (refine execC_split (fun h => ?_) (fun h => ?_) <;> (try simp only [h]))
      | (refine onPick_split (fun h => ?_) (fun h => ?_) <;> (try simp only [h])))
theorem isHoldNumber_fn (n : Int) : Fn prog 105 [.int .i64 n] (fun rs => rs = [.bool (within n 1 9)]) := by
  refine Fn_of' (fn := f105) (by exact func105) c105 r105 (n := 5) (by rfl) (rv := [.tmp 2]) (by rfl) (by simp) ?_
  unfold m105
  repeat' (first
      | (simp only [↓wA, ↓wC, wB, frzBE, frzBS, Nat.reduceEqDiff, Nat.reduceAdd, Nat.reduceSub, reduceIte, reduceCtorEq, Nat.reduceBEq, Nat.reduceLT, decide_true])
      | (refine call_det (within_fn _ _ _) rfl rfl ?_)
      | (refine callP_det (within_fn _ _ _) rfl rfl ?_)
      | (refine execG_split (fun h => ?_) (fun h => ?_) <;> simp only [h])
      | (refine execC_split (fun h => ?_) (fun h => ?_) <;> (try simp only [h]))
      | (refine onPick_split (fun h => ?_) (fun h => ?_) <;> (try simp only [h])))
theorem cloCase_fn (n : Int) : Fn prog 104 [.int .i64 n] (fun rs => rs = [.bool (!within n 1 9)]) := by
  refine Fn_of' (fn := f104) (by exact func104) c104 r104 (n := 6) (by rfl) (rv := [.tmp 2]) (by rfl) (by simp) ?_
  unfold m104
  repeat' (first
      | (simp only [↓wA, ↓wC, wB, frzBE, frzBS, Nat.reduceEqDiff, Nat.reduceAdd, Nat.reduceSub, reduceIte, reduceCtorEq, Nat.reduceBEq, Nat.reduceLT, decide_true])
      | (refine call_det (isHoldNumber_fn n) rfl rfl ?_)
      | (refine callP_det (isHoldNumber_fn n) rfl rfl ?_)
      | (refine execG_split (fun h => ?_) (fun h => ?_) <;> simp only [h])
      | (refine execC_split (fun h => ?_) (fun h => ?_) <;> (try simp only [h]))
      | (refine onPick_split (fun h => ?_) (fun h => ?_) <;> (try simp only [h])))
theorem isCase_fn (x : Cs) (hx : x.ok0) : Fn prog 76 [x.s] (fun rs => rs = [.bool (caseOK x)]) := by
  have hR := isRecordId_fn x.i
  have hA := isAct_fn x.a
  have hD := isDay_fn x.d
  have hS := areRising_fn x.h hx
  have hC := containsFuncI_fn (fun n => !within n 1 9) 104 .nil x.h rfl en104 hx (fun n _ => cloCase_fn n)
  rw [any_not] at hC
  unfold caseOK
  generalize within x.i 1 999 = b1 at *
  generalize within x.a 1 3 = b2 at *
  generalize within x.d 0 20000 = b3 at *
  generalize (x.h.all fun n => within n 1 9) = b4 at *
  generalize rises x.h = b5 at *
  refine Fn_of' (fn := f76) (by exact func76) c76 r76 (n := 33) (by rfl) (rv := [.tmp 2]) (by rfl) (by simp) ?_
  unfold m76
  simp only [Cs.s, Cs.p]
  repeat' (first
      | (simp only [ints_noOwn, onC_true, dl_len, ↓wA, ↓wC, wB, frzBE, frzBS, Nat.reduceEqDiff, Nat.reduceAdd, Nat.reduceSub, reduceIte, reduceCtorEq, Nat.reduceBEq, Nat.reduceLT, decide_true])
      | (refine call_det (hR) rfl rfl ?_)
      | (refine callP_det (hR) rfl rfl ?_)
      | (refine call_det (hA) rfl rfl ?_)
      | (refine callP_det (hA) rfl rfl ?_)
      | (refine call_det (hD) rfl rfl ?_)
      | (refine callP_det (hD) rfl rfl ?_)
      | (refine call_det (hS) rfl rfl ?_)
      | (refine callP_det (hS) rfl rfl ?_)
      | (refine call_det (hC) rfl rfl ?_)
      | (refine callP_det (hC) rfl rfl ?_)
      | (refine execG_split (fun h => ?_) (fun h => ?_) <;> simp only [h])
      | (refine execC_split (fun h => ?_) (fun h => ?_) <;> (try simp only [h]))
      | (refine onPick_split (fun h => ?_) (fun h => ?_) <;> (try simp only [h])))
  all_goals (clear hR hA hD hS hC; simp_all)
theorem l25Case_fn (x : Cs) (hx : x.ok0) : Fn prog 70 [x.s] (fun rs => rs = [.bool (caseOK x)]) := by
  have hR := l1In_fn x.i 1 999
  have hA := l1In_fn x.a 1 3
  have hD := l2Day_fn x.d
  have hS := l1Rising_fn x.h 1 9 hx
  unfold caseOK
  generalize within x.i 1 999 = b1 at *
  generalize within x.a 1 3 = b2 at *
  generalize within x.d 0 20000 = b3 at *
  generalize ((x.h.all fun n => within n 1 9) && rises x.h) = b4 at *
  refine Fn_of' (fn := f70) (by exact func70) c70 r70 (n := 27) (by rfl) (rv := [.tmp 2]) (by rfl) (by simp) ?_
  unfold m70
  simp only [Cs.s, Cs.p]
  repeat' (first
      | (simp only [ints_noOwn, onC_true, dl_len, ↓wA, ↓wC, wB, frzBE, frzBS, Nat.reduceEqDiff, Nat.reduceAdd, Nat.reduceSub, reduceIte, reduceCtorEq, Nat.reduceBEq, Nat.reduceLT, decide_true])
      | (refine call_det (hR) rfl rfl ?_)
      | (refine callP_det (hR) rfl rfl ?_)
      | (refine call_det (hA) rfl rfl ?_)
      | (refine callP_det (hA) rfl rfl ?_)
      | (refine call_det (hD) rfl rfl ?_)
      | (refine callP_det (hD) rfl rfl ?_)
      | (refine call_det (hS) rfl rfl ?_)
      | (refine callP_det (hS) rfl rfl ?_)
      | (refine execG_split (fun h => ?_) (fun h => ?_) <;> simp only [h])
      | (refine execC_split (fun h => ?_) (fun h => ?_) <;> (try simp only [h]))
      | (refine onPick_split (fun h => ?_) (fun h => ?_) <;> (try simp only [h])))
  all_goals (clear hR hA hD hS; simp_all)
end Go.Pe.Tryd

set_option maxRecDepth 100000
set_option maxHeartbeats 4000000
set_option linter.all false
namespace Go.Pe.Tryd
open Go.Proofs.Tryd
theorem fa_cs0 {x : Cs} {K : SV → Prop} : stepFa 0 0 (.d (.ptr x.s)) K = K (.d (.ptr (.int .i64 x.i))) := by simp [Cs.s, Cs.p, stepFa, D.pre, D.nth, D.size]
theorem doff_s0 {x : Cs} : doff [0] x.s = 0 := rfl
theorem dget_s0 {x : Cs} : dget [0] x.s = some (.int .i64 x.i) := rfl
theorem Off.s_isV (o : Off) : o.s.isV = true := rfl
theorem Off.s_size (o : Off) : o.s.size = 5 := rfl
theorem Off.o_isV (o : Off) : o.o.isV = true := rfl
theorem Off.o_size (o : Off) : o.o.size = 5 := rfl
/-- is a case's number greater than that of the one ahead? -/
def ltC (xs : List Cs) (i : Nat) (x : Cs) : Bool := match i with
  | 0 => true
  | k + 1 => match xs[k]? with
    | some y => decide (y.i < x.i)
    | none => true
def stepC (xs : List Cs) (i : Nat) : Bool := match xs[i]? with
  | some x => caseOK x && ltC xs i x
  | none => false
theorem stepC_at {xs : List Cs} {i : Nat} {x : Cs} (hr : xs[i]? = some x) : stepC xs i = (caseOK x && ltC xs i x) := by
  unfold stepC; rw [hr]
def casesOK (xs : List Cs) : Bool := (List.range xs.length).all (stepC xs)
theorem casesOK_bad {xs : List Cs} {i : Nat} (hi : i < xs.length) (h : stepC xs i = false) : casesOK xs = false := by
  refine List.all_eq_false.2 ⟨i, List.mem_range.2 hi, by rw [h]; simp⟩
theorem casesOK_all {xs : List Cs} (h : ∀ j, j < xs.length → stepC xs j = true) : casesOK xs = true :=
  List.all_eq_true.2 fun j hj => h j (List.mem_range.1 hj)
def ledOK (L : List (List UInt8)) : Bool := !decide ((0 : Int) < (L.length : Int)) || ledgerOK L
def headOK (o : Off) : Bool := within o.day 0 20000 && decide ((o.cs.length : Int) ≤ 6) && within o.kept 0 999 && within o.moved 0 999 && ledOK o.led
def offOK (o : Off) : Bool := headOK o && casesOK o.cs
theorem prevC {xs : List Cs} {i : Nat} {x : Cs} (hlt : i < xs.length) : (decide ((0 : Int) < (i : Int)) = false ∧ ltC xs i x = true) ∨ ∃ y, decide ((0 : Int) < (i : Int)) = true ∧ (0 : Int) ≤ (i : Int) - 1 ∧ xs[((i : Int) - 1).toNat]? = some y ∧ decide (x.i ≤ y.i) = !ltC xs i x := by
  cases i with
  | zero => exact .inl ⟨rfl, rfl⟩
  | succ k =>
    obtain ⟨y, hy⟩ := get_lt (show k < xs.length by omega)
    refine .inr ⟨y, decide_eq_true (by omega), by omega, ?_, ?_⟩
    · rw [show (((k + 1 : Nat) : Int) - 1).toNat = k by omega]; exact hy
    · have : ltC xs (k + 1) x = decide (y.i < x.i) := by simp only [ltC, hy]
      rw [this]
      by_cases h : y.i < x.i
      · rw [decide_eq_true h, decide_eq_false (by omega)]; rfl
      · rw [decide_eq_false h, decide_eq_true (by omega)]; rfl
theorem isOffice_fn (o : Off) (ho : o.ok0) : Fn prog 54 [o.s] (fun rs => rs = [.bool (offOK o)]) := by
  have hDay := isDay_fn o.day
  have hK := within_fn o.kept 0 999
  have hM := within_fn o.moved 0 999
  have hL := isLedger_fn o.led ho.2.1
  have hlen := ho.1.1
  have hh : headOK o = (within o.day 0 20000 && decide ((o.cs.length : Int) ≤ 6) && within o.kept 0 999 && within o.moved 0 999 && ledOK o.led) := rfl
  unfold ledOK at hh
  unfold offOK
  have body : headOK o = true → Fn prog 54 [o.s] (fun rs => rs = [.bool (casesOK o.cs)]) := by
    intro hho
    rw [hh] at hho
    simp only [Bool.and_eq_true] at hho
    obtain ⟨⟨⟨⟨q1, q2⟩, q3⟩, q4⟩, q5⟩ := hho
    rw [q1] at hDay
    rw [q3] at hK
    rw [q4] at hM
    have q2' := of_decide_eq_true q2
    have e2 : decide ((6 : Int) < (o.cs.length : Int)) = false := decide_eq_false (by omega)
    generalize hlg : ledgerOK o.led = b5 at *
    refine Fn_of' (fn := f54) (by exact func54) c54 r54 (n := 67) (by rfl) (rv := [.tmp 2]) (by rfl) (by simp) ?_
    unfold m54
    simp only [Off.s, offP]
    repeat' (first
        | (simp only [css_noOwn, strs_noOwn, onC_true, dl_len, e2, ↓wA, ↓wC, wB, frzBE, frzBS, Nat.reduceEqDiff, Nat.reduceAdd, Nat.reduceSub, reduceIte, reduceCtorEq, Nat.reduceBEq, Nat.reduceLT, decide_true])
        | (refine call_det (hDay) rfl rfl ?_)
        | (refine callP_det (hDay) rfl rfl ?_)
        | (refine call_det (hK) rfl rfl ?_)
        | (refine callP_det (hK) rfl rfl ?_)
        | (refine call_det (hM) rfl rfl ?_)
        | (refine callP_det (hM) rfl rfl ?_)
        | (refine call_det (hL) rfl rfl ?_)
        | (refine callP_det (hL) rfl rfl ?_)
        | (refine execG_split (fun h => ?_) (fun h => ?_) <;> simp only [h])
        | (refine execC_split (fun h => ?_) (fun h => ?_) <;> (try simp only [h]))
        | (refine onPick_split (fun h => ?_) (fun h => ?_) <;> (try simp only [h])))
    any_goals (exfalso; clear hDay hK hM hL; simp_all; done)
    all_goals
      refine exec_range o.cs.length (fun i : Nat => ⟨[(1, .ptr 0 0 []), (40, .d (.sl false 4 (dl Cs.s o.cs))), (41, .d (.int .i64 o.cs.length)), (42, .d (.int .i64 i))], [.box o.s]⟩) (fun i => ∀ j, j < i → stepC o.cs j = true) (weak_of _ rfl ⟨⟨rfl, rfl⟩, ⟨rfl, rfl⟩, ⟨rfl, rfl⟩, ⟨rfl, rfl⟩, trivial⟩) (fun j hj => by omega) ?_ ?_
      · intro i hlt hinv hd h0
        obtain ⟨x, hr⟩ := get_lt hlt
        have hst := stepC_at hr
        have hok := isCase_fn x (ho.1.2 x (List.mem_of_getElem? hr))
        simp only [Off.s, offP]
        rcases prevC (x := x) hlt with ⟨hg, hl⟩ | ⟨y, hg, h1, hy, hq⟩
        · rw [hl, Bool.and_true] at hst
          repeat' (first
              | (simp only [css_noOwn, strs_noOwn, dl_len, dl_nth, hd, h0, hg, Int.toNat_natCast, hr, Option.map_some, ↓rd_cs, Cs.s_noOwn, Cs.s_isV, Cs.s_size, Cs.s_unown, onC_true, ↓wA, ↓wC, wB, frzBE, frzBS, Nat.reduceEqDiff, Nat.reduceAdd, Nat.reduceSub, reduceIte, reduceCtorEq, Nat.reduceBEq, Nat.reduceLT, decide_true])
              | (refine call_det (hok) rfl rfl ?_)
              | (refine callP_det (hok) rfl rfl ?_)
              | (with_reducible refine onI_bare ?_ ?_; focus (simp only [InR]; omega))
              | (refine execG_split (fun h => ?_) (fun h => ?_) <;> simp only [h])
              | (refine execC_split (fun h => ?_) (fun h => ?_) <;> (try simp only [h]))
              | (refine onPick_split (fun h => ?_) (fun h => ?_) <;> (try simp only [h])))
          all_goals first
            | (refine next_range (weak_of _ rfl ⟨⟨rfl, rfl⟩, ⟨rfl, rfl⟩, ⟨rfl, rfl⟩, ⟨rfl, rfl⟩, trivial⟩) hlt (all_upto hinv ?_); focus (clear hok; rw [hst]; simp_all; done))
            | (refine (congrArg (fun b => [D.bool b]) (casesOK_bad hlt ?_)).symm; focus (clear hok; rw [hst]; simp_all; done))
            | trace_state
        · repeat' (first
     | (simp only [css_noOwn, strs_noOwn, dl_len, dl_nth, hd, h0, hg, h1, hy, hq, Int.toNat_natCast, hr, Option.map_some, ↓rd_cs, ↓fa_cs0, doff_s0, dget_s0, Cs.s_noOwn, Cs.s_isV, Cs.s_size, Cs.s_unown, onC_true, ↓wA, ↓wC, wB, frzBE, frzBS, Nat.reduceEqDiff, Nat.reduceAdd, Nat.reduceSub, reduceIte, reduceCtorEq, Nat.reduceBEq, Nat.reduceLT, decide_true])
     | (refine call_det (hok) rfl rfl ?_)
     | (refine callP_det (hok) rfl rfl ?_)
     | (with_reducible refine onI_bare ?_ ?_; focus (simp only [InR]; omega))
     | (refine execG_split (fun h => ?_) (fun h => ?_) <;> simp only [h])
     | (refine execC_split (fun h => ?_) (fun h => ?_) <;> (try simp only [h]))
     | (refine onPick_split (fun h => ?_) (fun h => ?_) <;> (try simp only [h])))
          all_goals first
            | (refine next_range (weak_of _ rfl ⟨⟨rfl, rfl⟩, ⟨rfl, rfl⟩, ⟨rfl, rfl⟩, ⟨rfl, rfl⟩, trivial⟩) hlt (all_upto hinv ?_); focus (clear hok; rw [hst]; simp_all; done))
            | (refine (congrArg (fun b => [D.bool b]) (casesOK_bad hlt ?_)).symm; focus (clear hok; rw [hst]; simp_all; done))
            | trace_state
      · intro hinv hd
        have hall := casesOK_all hinv
        rw [hall]
        simp only [Off.s, offP]
        repeat' (first
            | (simp only [css_noOwn, strs_noOwn, dl_len, hd, onC_true, ↓wA, ↓wC, wB, frzBE, frzBS, Nat.reduceEqDiff, Nat.reduceAdd, Nat.reduceSub, reduceIte, reduceCtorEq, Nat.reduceBEq, Nat.reduceLT, decide_true])
            | (refine execG_split (fun h => ?_) (fun h => ?_) <;> simp only [h])
            | (refine execC_split (fun h => ?_) (fun h => ?_) <;> (try simp only [h]))
            | (refine onPick_split (fun h => ?_) (fun h => ?_) <;> (try simp only [h])))
  cases hho : headOK o with
  | true => simpa using body hho
  | false =>
    rw [hh] at hho
    rw [Bool.false_and]
    generalize hlg : ledgerOK o.led = b5 at *
    generalize within o.day 0 20000 = b1 at *
    generalize within o.kept 0 999 = b3 at *
    generalize within o.moved 0 999 = b4 at *
    refine Fn_of' (fn := f54) (by exact func54) c54 r54 (n := 67) (by rfl) (rv := [.tmp 2]) (by rfl) (by simp) ?_
    unfold m54
    simp only [Off.s, offP]
    repeat' (first
        | (simp only [css_noOwn, strs_noOwn, onC_true, dl_len, ↓wA, ↓wC, wB, frzBE, frzBS, Nat.reduceEqDiff, Nat.reduceAdd, Nat.reduceSub, reduceIte, reduceCtorEq, Nat.reduceBEq, Nat.reduceLT, decide_true])
        | (refine call_det (hDay) rfl rfl ?_)
        | (refine callP_det (hDay) rfl rfl ?_)
        | (refine call_det (hK) rfl rfl ?_)
        | (refine callP_det (hK) rfl rfl ?_)
        | (refine call_det (hM) rfl rfl ?_)
        | (refine callP_det (hM) rfl rfl ?_)
        | (refine call_det (hL) rfl rfl ?_)
        | (refine callP_det (hL) rfl rfl ?_)
        | (refine execG_split (fun h => ?_) (fun h => ?_) <;> simp only [h])
        | (refine execC_split (fun h => ?_) (fun h => ?_) <;> (try simp only [h]))
        | (refine onPick_split (fun h => ?_) (fun h => ?_) <;> (try simp only [h])))
    all_goals first
      | rfl
      | (exfalso; clear hDay hK hM hL body; simp_all; done)
      | (exfalso; clear hDay hK hM hL body; simp_all; omega)
theorem l25Good_fn (o : Off) (ho : o.ok0) : Fn prog 50 [o.s] (fun rs => rs = [.bool (offOK o)]) := by
  have hDay := l2Day_fn o.day
  have hK := l1In_fn o.kept 0 999
  have hM := l1In_fn o.moved 0 999
  have hL := l16Good_fn o.led ho.2.1 ho.2.2
  have hlen := ho.1.1
  have hh : headOK o = (within o.day 0 20000 && decide ((o.cs.length : Int) ≤ 6) && within o.kept 0 999 && within o.moved 0 999 && ledOK o.led) := rfl
  unfold ledOK at hh
  unfold offOK
  have body : headOK o = true → Fn prog 50 [o.s] (fun rs => rs = [.bool (casesOK o.cs)]) := by
    intro hho
    rw [hh] at hho
    simp only [Bool.and_eq_true] at hho
    obtain ⟨⟨⟨⟨q1, q2⟩, q3⟩, q4⟩, q5⟩ := hho
    rw [q1] at hDay
    rw [q3] at hK
    rw [q4] at hM
    have q2' := of_decide_eq_true q2
    have e2 : decide ((6 : Int) < (o.cs.length : Int)) = false := decide_eq_false (by omega)
    generalize hlg : ledgerOK o.led = b5 at *
    refine Fn_of' (fn := f50) (by exact func50) c50 r50 (n := 72) (by rfl) (rv := [.tmp 2]) (by rfl) (by simp) ?_
    unfold m50
    simp only [Off.s, offP]
    repeat' (first
        | (simp only [css_noOwn, strs_noOwn, onC_true, dl_len, e2, ↓wA, ↓wC, wB, frzBE, frzBS, Nat.reduceEqDiff, Nat.reduceAdd, Nat.reduceSub, reduceIte, reduceCtorEq, Nat.reduceBEq, Nat.reduceLT, decide_true])
        | (refine call_det (hDay) rfl rfl ?_)
        | (refine callP_det (hDay) rfl rfl ?_)
        | (refine call_det (hK) rfl rfl ?_)
        | (refine callP_det (hK) rfl rfl ?_)
        | (refine call_det (hM) rfl rfl ?_)
        | (refine callP_det (hM) rfl rfl ?_)
        | (refine call_det (hL) rfl rfl ?_)
        | (refine callP_det (hL) rfl rfl ?_)
        | (refine execG_split (fun h => ?_) (fun h => ?_) <;> simp only [h])
        | (refine execC_split (fun h => ?_) (fun h => ?_) <;> (try simp only [h]))
        | (refine onPick_split (fun h => ?_) (fun h => ?_) <;> (try simp only [h])))
    any_goals (exfalso; clear hDay hK hM hL; simp_all; done)
    all_goals
      refine exec_range o.cs.length (fun i : Nat => ⟨[(1, .ptr 0 0 []), (3, .d (.int .i64 i))], [.box o.s]⟩) (fun i => ∀ j, j < i → stepC o.cs j = true) (weak_of _ rfl ⟨⟨rfl, rfl⟩, ⟨rfl, rfl⟩, trivial⟩) (fun j hj => by omega) ?_ ?_
      · intro i hlt hinv hd h0
        obtain ⟨x, hr⟩ := get_lt hlt
        have hst := stepC_at hr
        have hok := l25Case_fn x (ho.1.2 x (List.mem_of_getElem? hr))
        simp only [Off.s, offP]
        rcases prevC (x := x) hlt with ⟨hg, hl⟩ | ⟨y, hg, h1, hy, hq⟩
        · rw [hl, Bool.and_true] at hst
          repeat' (first
              | (simp only [css_noOwn, strs_noOwn, dl_len, dl_nth, hd, h0, hg, Int.toNat_natCast, hr, Option.map_some, ↓rd_cs, Cs.s_noOwn, Cs.s_isV, Cs.s_size, Cs.s_unown, onC_true, ↓wA, ↓wC, wB, frzBE, frzBS, Nat.reduceEqDiff, Nat.reduceAdd, Nat.reduceSub, reduceIte, reduceCtorEq, Nat.reduceBEq, Nat.reduceLT, decide_true])
              | (refine call_det (hok) rfl rfl ?_)
              | (refine callP_det (hok) rfl rfl ?_)
              | (with_reducible refine onI_bare ?_ ?_; focus (simp only [InR]; omega))
              | (refine execG_split (fun h => ?_) (fun h => ?_) <;> simp only [h])
              | (refine execC_split (fun h => ?_) (fun h => ?_) <;> (try simp only [h]))
              | (refine onPick_split (fun h => ?_) (fun h => ?_) <;> (try simp only [h])))
          all_goals first
            | (refine next_range (weak_of _ rfl ⟨⟨rfl, rfl⟩, ⟨rfl, rfl⟩, trivial⟩) hlt (all_upto hinv ?_); focus (clear hok; rw [hst]; simp_all; done))
            | (refine (congrArg (fun b => [D.bool b]) (casesOK_bad hlt ?_)).symm; focus (clear hok; rw [hst]; simp_all; done))
            | trace_state
        · repeat' (first
     | (simp only [css_noOwn, strs_noOwn, dl_len, dl_nth, hd, h0, hg, h1, hy, hq, Int.toNat_natCast, hr, Option.map_some, ↓rd_cs, ↓fa_cs0, doff_s0, dget_s0, Cs.s_noOwn, Cs.s_isV, Cs.s_size, Cs.s_unown, onC_true, ↓wA, ↓wC, wB, frzBE, frzBS, Nat.reduceEqDiff, Nat.reduceAdd, Nat.reduceSub, reduceIte, reduceCtorEq, Nat.reduceBEq, Nat.reduceLT, decide_true])
     | (refine call_det (hok) rfl rfl ?_)
     | (refine callP_det (hok) rfl rfl ?_)
     | (with_reducible refine onI_bare ?_ ?_; focus (simp only [InR]; omega))
     | (refine execG_split (fun h => ?_) (fun h => ?_) <;> simp only [h])
     | (refine execC_split (fun h => ?_) (fun h => ?_) <;> (try simp only [h]))
     | (refine onPick_split (fun h => ?_) (fun h => ?_) <;> (try simp only [h])))
          all_goals first
            | (refine next_range (weak_of _ rfl ⟨⟨rfl, rfl⟩, ⟨rfl, rfl⟩, trivial⟩) hlt (all_upto hinv ?_); focus (clear hok; rw [hst]; simp_all; done))
            | (refine (congrArg (fun b => [D.bool b]) (casesOK_bad hlt ?_)).symm; focus (clear hok; rw [hst]; simp_all; done))
            | trace_state
      · intro hinv hd
        have hall := casesOK_all hinv
        rw [hall]
        simp only [Off.s, offP]
        repeat' (first
            | (simp only [css_noOwn, strs_noOwn, dl_len, hd, onC_true, ↓wA, ↓wC, wB, frzBE, frzBS, Nat.reduceEqDiff, Nat.reduceAdd, Nat.reduceSub, reduceIte, reduceCtorEq, Nat.reduceBEq, Nat.reduceLT, decide_true])
            | (refine execG_split (fun h => ?_) (fun h => ?_) <;> simp only [h])
            | (refine execC_split (fun h => ?_) (fun h => ?_) <;> (try simp only [h]))
            | (refine onPick_split (fun h => ?_) (fun h => ?_) <;> (try simp only [h])))
  cases hho : headOK o with
  | true => simpa using body hho
  | false =>
    rw [hh] at hho
    rw [Bool.false_and]
    generalize hlg : ledgerOK o.led = b5 at *
    generalize within o.day 0 20000 = b1 at *
    generalize within o.kept 0 999 = b3 at *
    generalize within o.moved 0 999 = b4 at *
    refine Fn_of' (fn := f50) (by exact func50) c50 r50 (n := 72) (by rfl) (rv := [.tmp 2]) (by rfl) (by simp) ?_
    unfold m50
    simp only [Off.s, offP]
    repeat' (first
        | (simp only [css_noOwn, strs_noOwn, onC_true, dl_len, ↓wA, ↓wC, wB, frzBE, frzBS, Nat.reduceEqDiff, Nat.reduceAdd, Nat.reduceSub, reduceIte, reduceCtorEq, Nat.reduceBEq, Nat.reduceLT, decide_true])
        | (refine call_det (hDay) rfl rfl ?_)
        | (refine callP_det (hDay) rfl rfl ?_)
        | (refine call_det (hK) rfl rfl ?_)
        | (refine callP_det (hK) rfl rfl ?_)
        | (refine call_det (hM) rfl rfl ?_)
        | (refine callP_det (hM) rfl rfl ?_)
        | (refine call_det (hL) rfl rfl ?_)
        | (refine callP_det (hL) rfl rfl ?_)
        | (refine execG_split (fun h => ?_) (fun h => ?_) <;> simp only [h])
        | (refine execC_split (fun h => ?_) (fun h => ?_) <;> (try simp only [h]))
        | (refine onPick_split (fun h => ?_) (fun h => ?_) <;> (try simp only [h])))
    all_goals first
      | rfl
      | (exfalso; clear hDay hK hM hL body; simp_all; done)
      | (exfalso; clear hDay hK hM hL body; simp_all; omega)
def offSh : Sh := .st (.cons (.int .i64) (.cons (.sl 4 (.st (.cons (.int .i64) (.cons (.int .i64) (.cons (.int .i64) (.cons (.sl 1 (.int .i64)) .nil)))))) (.cons (.int .i64) (.cons (.int .i64) (.cons (.sl 1 .str) .nil)))))
theorem int_of (x : D) (h : Typed (.int .i64) x) : ∃ n : Int, x = iD n ∧ True := by
  obtain ⟨n, rfl, _⟩ := h
  exact ⟨n, rfl, trivial⟩
theorem str_of (x : D) (h : Typed .str x) : ∃ s : List UInt8, x = .str s ∧ s.length ≤ maxLen := by
  obtain ⟨s, rfl, hs⟩ := h
  exact ⟨s, rfl, hs⟩
theorem case_of (x : D) (h : Typed (.st (.cons (.int .i64) (.cons (.int .i64) (.cons (.int .i64) (.cons (.sl 1 (.int .i64)) .nil))))) x) : ∃ c : Cs, x = c.s ∧ c.h.length ≤ maxLen := by
  obtain ⟨_, rfl, _, _, rfl, ⟨i, rfl, _⟩, _, _, rfl, ⟨a, rfl, _⟩, _, _, rfl, ⟨d, rfl, _⟩, _, _, rfl, ⟨ds, rfl, h1, h2⟩, rfl⟩ := h
  obtain ⟨v, hv, hl, _⟩ := typed_list (f := iD) (P := fun _ => True) int_of ds h2
  exact ⟨⟨i, a, d, v⟩, by rw [hv]; rfl, by rw [hl]; exact h1⟩
/-- sizes as they come. -/
def Off.raw (o : Off) : Prop := o.cs.length ≤ maxLen ∧ (∀ x ∈ o.cs, x.h.length ≤ maxLen) ∧ o.led.length ≤ maxLen ∧ ∀ s ∈ o.led, s.length ≤ maxLen
theorem off_of (x : D) (h : Typed offSh x) : ∃ o : Off, x = o.s ∧ o.raw := by
  obtain ⟨_, rfl, _, _, rfl, ⟨day, rfl, _⟩, _, _, rfl, ⟨cs, rfl, c1, c2⟩, _, _, rfl, ⟨k, rfl, _⟩, _, _, rfl, ⟨m, rfl, _⟩, _, _, rfl, ⟨ls, rfl, l1, l2⟩, rfl⟩ := h
  obtain ⟨xs, hxs, hxl, hxp⟩ := typed_list (f := Cs.s) (P := fun c => c.h.length ≤ maxLen) case_of cs c2
  obtain ⟨L, hL, hLl, hLp⟩ := typed_list (f := D.str) (P := fun s => s.length ≤ maxLen) str_of ls l2
  exact ⟨⟨day, xs, k, m, L⟩, by rw [hxs, hL]; rfl, by rw [hxl]; exact c1, hxp, by rw [hLl]; exact l1, hLp⟩
theorem szOff_fn (o : Off) (h : o.raw) : Fn prog 20 [o.s, .int .i64 1048576] (fun rs => ∃ m : Int, rs = [.int .i64 m] ∧ -1 ≤ m ∧ m ≤ 1048576 ∧ (0 ≤ m → o.ok0)) :=
  szOffice_fn o 1048576 (by decide) (by decide) h.1 h.2.1 h.2.2.1 h.2.2.2
end Go.Pe.Tryd

set_option maxRecDepth 100000
set_option maxHeartbeats 4000000
set_option linter.all false
namespace Go.Pe.Tryd
open Go.Proofs.Tryd
end Go.Pe.Tryd

set_option maxRecDepth 100000
set_option maxHeartbeats 4000000
set_option linter.all false
namespace Go.Pe.Tryd
open Go.Proofs.Tryd Go.Sort
/-- the digits of a number, the last ones apart. -/
structure Digs (k : Int) (p : Int × List UInt8) : Prop where
  lo : 0 ≤ p.1
  hi : p.1 ≤ k
  len : p.2.length ≤ 21
  eq : Lib.decDigits k.toNat = if p.1 = 0 then p.2 else Lib.decDigits p.1.toNat ++ p.2
theorem Digs.done {k : Int} {p : Int × List UInt8} (h : Digs k p) (hp : ¬ 0 < p.1) : Lib.decDigits k.toNat = p.2 := by
  have := h.lo
  rw [h.eq, if_pos (by omega)]
end Go.Pe.Tryd

set_option maxRecDepth 100000
set_option maxHeartbeats 4000000
set_option linter.all false
namespace Go.Pe.Tryd
open Go.Proofs.Tryd
end Go.Pe.Tryd

set_option maxRecDepth 100000
set_option maxHeartbeats 4000000
set_option linter.all false
namespace Go.Pe.Tryd
open Go.Proofs.Tryd
theorem app_int (V : List Int) (n : Int) : (dl iD V).app (D.cons (.int .i64 n) .nil) = dl iD (V ++ [n]) := app_one (f := iD) V n
end Go.Pe.Tryd

set_option maxRecDepth 100000
set_option maxHeartbeats 4000000
set_option linter.all false
namespace Go.Pe.Tryd
open Go.Proofs.Tryd
def leafH (s : List UInt8) : Int := ck (108 :: s)
def pairH (a b : Int) : Int := ck (110 :: (Lib.itoa a ++ 44 :: Lib.itoa b))
def roundL : List Int → List Int
  | a :: b :: r => pairH a b :: roundL r
  | l => l
def hashOK (n : Int) : Prop := 0 ≤ n ∧ n < 999979
theorem hash_InR {n : Int} (h : hashOK n) : InR .i64 n := by
  obtain ⟨h1, h2⟩ := h
  simp only [InR]; omega
theorem leafH_ok (s : List UInt8) : hashOK (leafH s) := ck_bd _
theorem pairH_ok (a b : Int) : hashOK (pairH a b) := ck_bd _
theorem roundL_ok : ∀ v : List Int, (∀ n ∈ v, hashOK n) → ∀ n ∈ roundL v, hashOK n
  | [], h => h
  | [a], h => h
  | a :: b :: r, h => by
    intro n hn
    rcases List.mem_cons.1 hn with rfl | hn
    · exact pairH_ok a b
    · exact roundL_ok r (fun m hm => h m (List.mem_cons_of_mem _ (List.mem_cons_of_mem _ hm))) n hn
theorem roundL_len : ∀ v : List Int, (roundL v).length = (v.length + 1) / 2
  | [] => by simp [roundL]
  | [a] => by simp [roundL]
  | a :: b :: r => by
    have := roundL_len r
    simp only [roundL, List.length_cons]
    omega
theorem roundL_app : ∀ (xs ys : List Int), xs.length % 2 = 0 → roundL (xs ++ ys) = roundL xs ++ roundL ys
  | [], ys, _ => rfl
  | [a], ys, h => by simp at h
  | a :: b :: r, ys, h => by
    have := roundL_app r ys (by simp only [List.length_cons] at h; omega)
    simp only [List.cons_append, roundL, this]
theorem roundL_two {v : List Int} {i : Nat} {a b : Int} (he : i % 2 = 0) (ha : v[i]? = some a) (hb : v[i + 1]? = some b) : roundL (v.take (i + 2)) = roundL (v.take i) ++ [pairH a b] := by
  have hi := lt_of_get ha
  rw [take_get hb, take_get ha, List.append_assoc, roundL_app _ _ (by rw [List.length_take, Nat.min_eq_left (by omega)]; exact he)]
  rfl
theorem roundL_one {v : List Int} {i : Nat} {a : Int} (he : i % 2 = 0) (ha : v[i]? = some a) (hb : v.length ≤ i + 1) : roundL (v.take (i + 2)) = roundL (v.take i) ++ [a] := by
  have hi := lt_of_get ha
  have e : v.take (i + 2) = v.take (i + 1) := by rw [List.take_of_length_le (by omega), List.take_of_length_le (by omega)]
  rw [e, take_get ha, roundL_app _ _ (by rw [List.length_take, Nat.min_eq_left (by omega)]; exact he)]
  rfl
theorem checksum2_fn (s : List UInt8) (hl : s.length ≤ 4000) : Fn prog 123 [.str s] (fun rs => rs = [.int .i64 (ck s), .bool true]) := by
  have h := checksum_fn s (by rw [maxLen_eq]; omega)
  have hd : decide ((s.length : Int) > 4000) = false := decide_eq_false (by omega)
  have hd' : decide ((4000 : Int) < (s.length : Int)) = false := decide_eq_false (by omega)
  refine Fn_of' (fn := f123) (by exact func123) c123 r123 (n := 9) (by rfl) (rv := [.tmp 2, .tmp 3]) (by rfl) (by simp) ?_
  unfold m123
  repeat' (first
      | (simp only [hd, hd', ↓wA, ↓wC, wB, frzBE, frzBS, Nat.reduceEqDiff, Nat.reduceAdd, Nat.reduceSub, reduceIte, reduceCtorEq, Nat.reduceBEq, Nat.reduceLT, decide_true])
      | (refine call_det (h) rfl rfl ?_)
      | (refine callP_det (h) rfl rfl ?_)
      | (refine execG_split (fun h => ?_) (fun h => ?_) <;> simp only [h])
      | (refine execC_split (fun h => ?_) (fun h => ?_) <;> (try simp only [h]))
      | (refine onPick_split (fun h => ?_) (fun h => ?_) <;> (try simp only [h])))
theorem entryHash_fn (s : List UInt8) (hl : s.length ≤ 100) : Fn prog 106 [.str s] (fun rs => rs = [.int .i64 (leafH s)]) := by
  have h := checksum2_fn (108 :: s) (by simp only [List.length_cons]; omega)
  refine Fn_of' (fn := f106) (by exact func106) c106 r106 (n := 12) (by rfl) (rv := [.tmp 2]) (by rfl) (by simp) ?_
  unfold m106
  repeat' (first
      | (simp only [onC_true, ↓wA, ↓wC, wB, frzBE, frzBS, Nat.reduceEqDiff, Nat.reduceAdd, Nat.reduceSub, reduceIte, reduceCtorEq, Nat.reduceBEq, Nat.reduceLT, decide_true])
      | (refine call_det (h) rfl rfl ?_)
      | (refine callP_det (h) rfl rfl ?_)
      | (with_reducible refine onC_i ?_ ?_; focus ((try simp only [List.length_append, List.length_cons, List.length_nil]); omega))
      | (refine execG_split (fun h => ?_) (fun h => ?_) <;> simp only [h])
      | (refine execC_split (fun h => ?_) (fun h => ?_) <;> (try simp only [h]))
      | (refine onPick_split (fun h => ?_) (fun h => ?_) <;> (try simp only [h])))
  all_goals rfl
theorem l16Leaf_fn (s : List UInt8) (hl : s.length ≤ 100) : Fn prog 94 [.str s] (fun rs => rs = [.int .i64 (leafH s)]) := by
  have h := l1Sum_fn (108 :: s) (by rw [maxLen_eq]; simp only [List.length_cons]; omega)
  refine Fn_of' (fn := f94) (by exact func94) c94 r94 (n := 6) (by rfl) (rv := [.tmp 2]) (by rfl) (by simp) ?_
  unfold m94
  repeat' (first
      | (simp only [onC_true, ↓wA, ↓wC, wB, frzBE, frzBS, Nat.reduceEqDiff, Nat.reduceAdd, Nat.reduceSub, reduceIte, reduceCtorEq, Nat.reduceBEq, Nat.reduceLT, decide_true])
      | (refine call_det (h) rfl rfl ?_)
      | (refine callP_det (h) rfl rfl ?_)
      | (with_reducible refine onC_i ?_ ?_; focus ((try simp only [List.length_append, List.length_cons, List.length_nil]); omega))
      | (refine execG_split (fun h => ?_) (fun h => ?_) <;> simp only [h])
      | (refine execC_split (fun h => ?_) (fun h => ?_) <;> (try simp only [h]))
      | (refine onPick_split (fun h => ?_) (fun h => ?_) <;> (try simp only [h])))
  all_goals rfl
theorem pairHash_fn (a b : Int) (ha : hashOK a) (hb : hashOK b) : Fn prog 108 [.int .i64 a, .int .i64 b] (fun rs => rs = [.int .i64 (pairH a b)]) := by
  have l1 := itoa_le a (hash_InR ha)
  have l2 := itoa_le b (hash_InR hb)
  have d1 := decimal_fn a (hash_InR ha)
  have d2 := decimal_fn b (hash_InR hb)
  have h := checksum2_fn (110 :: (Lib.itoa a ++ 44 :: Lib.itoa b)) (by simp only [List.length_cons, List.length_append]; omega)
  refine Fn_of' (fn := f108) (by exact func108) c108 r108 (n := 19) (by rfl) (rv := [.tmp 4]) (by rfl) (by simp) ?_
  unfold m108
  repeat' (first
      | (simp only [onC_true, List.append_assoc, List.cons_append, List.nil_append, ↓wA, ↓wC, wB, frzBE, frzBS, Nat.reduceEqDiff, Nat.reduceAdd, Nat.reduceSub, reduceIte, reduceCtorEq, Nat.reduceBEq, Nat.reduceLT, decide_true])
      | (refine call_det (d1) rfl rfl ?_)
      | (refine callP_det (d1) rfl rfl ?_)
      | (refine call_det (d2) rfl rfl ?_)
      | (refine callP_det (d2) rfl rfl ?_)
      | (refine call_det (h) rfl rfl ?_)
      | (refine callP_det (h) rfl rfl ?_)
      | (with_reducible refine onC_i ?_ ?_; focus ((try simp only [List.length_append, List.length_cons, List.length_nil]); omega))
      | (refine execG_split (fun h => ?_) (fun h => ?_) <;> simp only [h])
      | (refine execC_split (fun h => ?_) (fun h => ?_) <;> (try simp only [h]))
      | (refine onPick_split (fun h => ?_) (fun h => ?_) <;> (try simp only [h])))
  all_goals rfl
theorem l16Pair_fn (a b : Int) (ha : hashOK a) (hb : hashOK b) : Fn prog 95 [.int .i64 a, .int .i64 b] (fun rs => rs = [.int .i64 (pairH a b)]) := by
  have l1 := itoa_le a (hash_InR ha)
  have l2 := itoa_le b (hash_InR hb)
  have d1 := l1Num_fn a ha.1 (hash_InR ha)
  have d2 := l1Num_fn b hb.1 (hash_InR hb)
  have h := l1Sum_fn (110 :: (Lib.itoa a ++ 44 :: Lib.itoa b)) (by rw [maxLen_eq]; simp only [List.length_cons, List.length_append]; omega)
  refine Fn_of' (fn := f95) (by exact func95) c95 r95 (n := 13) (by rfl) (rv := [.tmp 4]) (by rfl) (by simp) ?_
  unfold m95
  repeat' (first
      | (simp only [onC_true, List.append_assoc, List.cons_append, List.nil_append, ↓wA, ↓wC, wB, frzBE, frzBS, Nat.reduceEqDiff, Nat.reduceAdd, Nat.reduceSub, reduceIte, reduceCtorEq, Nat.reduceBEq, Nat.reduceLT, decide_true])
      | (refine call_det (d1) rfl rfl ?_)
      | (refine callP_det (d1) rfl rfl ?_)
      | (refine call_det (d2) rfl rfl ?_)
      | (refine callP_det (d2) rfl rfl ?_)
      | (refine call_det (h) rfl rfl ?_)
      | (refine callP_det (h) rfl rfl ?_)
      | (with_reducible refine onC_i ?_ ?_; focus ((try simp only [List.length_append, List.length_cons, List.length_nil]); omega))
      | (refine execG_split (fun h => ?_) (fun h => ?_) <;> simp only [h])
      | (refine execC_split (fun h => ?_) (fun h => ?_) <;> (try simp only [h]))
      | (refine onPick_split (fun h => ?_) (fun h => ?_) <;> (try simp only [h])))
  all_goals rfl
theorem l16Leaves_fn (L : List (List UInt8)) (hl : L.length ≤ 8) (hx : ∀ s ∈ L, s.length ≤ 100) : Fn prog 71 [.sl false 1 (dl D.str L)] (fun rs => rs = [.sl true 1 (dl iD (L.map leafH))]) := by
  refine Fn_of' (fn := f71) (by exact func71) c71 r71 (n := 21) (by rfl) (rv := [.tmp 2]) (by rfl) (by simp) ?_
  unfold m71
  repeat' (first
      | (simp only [onC_true, dl_len, ↓wA, ↓wC, wB, frzBE, frzBS, Nat.reduceEqDiff, Nat.reduceAdd, Nat.reduceSub, reduceIte, reduceCtorEq, Nat.reduceBEq, Nat.reduceLT, decide_true])
      | (refine execG_split (fun h => ?_) (fun h => ?_) <;> simp only [h])
      | (refine execC_split (fun h => ?_) (fun h => ?_) <;> (try simp only [h]))
      | (refine onPick_split (fun h => ?_) (fun h => ?_) <;> (try simp only [h])))
  refine exec_range L.length (fun i : Nat => ⟨[(0, .d (.sl false 1 (dl D.str L))), (3, .own 0), (4, .d (.int .i64 i))], [.val (.sl true 1 (dl iD ((L.take i).map leafH)))]⟩) (fun _ => True) (weak_of _ rfl ⟨⟨rfl, rfl⟩, ⟨rfl, rfl⟩, ⟨rfl, rfl⟩, trivial⟩) trivial ?_ ?_
  · intro i hlt _ hd h0
    obtain ⟨s, hr⟩ := get_lt hlt
    have h := l16Leaf_fn s (hx s (List.mem_of_getElem? hr))
    have hsn : (L.take (i + 1)).map leafH = (L.take i).map leafH ++ [leafH s] := by rw [take_get hr, List.map_append]; rfl
    have hvl : ((L.take i).map leafH).length ≤ 8 := by simp; omega
    repeat' (first
        | (simp only [dl_len, hd, h0, dl_nth, Int.toNat_natCast, hr, Option.map_some, onC_true, app_int, ↓wA, ↓wC, wB, frzBE, frzBS, Nat.reduceEqDiff, Nat.reduceAdd, Nat.reduceSub, reduceIte, reduceCtorEq, Nat.reduceBEq, Nat.reduceLT, decide_true])
        | (refine call_det (h) rfl rfl ?_)
        | (refine callP_det (h) rfl rfl ?_)
        | (with_reducible refine onI_bare ?_ ?_; focus (simp only [InR]; omega))
        | (with_reducible refine onC_i ?_ ?_; focus omega)
        | (with_reducible refine onC_i ?_ ?_; focus (simp; done))
        | (refine execG_split (fun h => ?_) (fun h => ?_) <;> simp only [h])
        | (refine execC_split (fun h => ?_) (fun h => ?_) <;> (try simp only [h]))
        | (refine onPick_split (fun h => ?_) (fun h => ?_) <;> (try simp only [h])))
    refine ⟨i + 1, ?_, by omega, by omega⟩
    rw [hsn]
    exact (weak_of _ rfl ⟨⟨rfl, rfl⟩, ⟨rfl, rfl⟩, ⟨rfl, rfl⟩, trivial⟩)
  · intro _ hd
    repeat' (first
        | (simp only [hd, dl_len, List.take_length, ↓wA, ↓wC, wB, frzBE, frzBS, Nat.reduceEqDiff, Nat.reduceAdd, Nat.reduceSub, reduceIte, reduceCtorEq, Nat.reduceBEq, Nat.reduceLT, decide_true])
        | (refine execG_split (fun h => ?_) (fun h => ?_) <;> simp only [h])
        | (refine execC_split (fun h => ?_) (fun h => ?_) <;> (try simp only [h]))
        | (refine onPick_split (fun h => ?_) (fun h => ?_) <;> (try simp only [h])))
theorem hashesOf_fn (L : List (List UInt8)) (hl : L.length ≤ 8) (hx : ∀ s ∈ L, s.length ≤ 100) : Fn prog 77 [.sl false 1 (dl D.str L)] (fun rs => rs = [.sl true 1 (dl iD (L.map leafH))]) := by
  refine Fn_of' (fn := f77) (by exact func77) c77 r77 (n := 19) (by rfl) (rv := [.tmp 2]) (by rfl) (by simp) ?_
  unfold m77
  repeat' (first
      | (simp only [onC_true, dl_len, ↓wA, ↓wC, wB, frzBE, frzBS, Nat.reduceEqDiff, Nat.reduceAdd, Nat.reduceSub, reduceIte, reduceCtorEq, Nat.reduceBEq, Nat.reduceLT, decide_true])
      | (refine execG_split (fun h => ?_) (fun h => ?_) <;> simp only [h])
      | (refine execC_split (fun h => ?_) (fun h => ?_) <;> (try simp only [h]))
      | (refine onPick_split (fun h => ?_) (fun h => ?_) <;> (try simp only [h])))
  refine exec_rangeN [(3, 1)] L.length (fun i : Nat => ⟨[(3, .own 0), (6, .d (.sl false 1 (dl D.str L))), (7, .d (.int .i64 L.length)), (8, .d (.int .i64 i))], [.val (.sl true 1 (dl iD ((L.take i).map leafH)))]⟩) (fun _ => True) ⟨rfl, trivial⟩ ?_ trivial ?_ ?_
  · exact (weak_of _ rfl ⟨⟨rfl, rfl⟩, ⟨rfl, rfl⟩, ⟨rfl, rfl⟩, ⟨rfl, rfl⟩, trivial⟩)
  · intro i hlt _ hd h0
    obtain ⟨s, hr⟩ := get_lt hlt
    have h := entryHash_fn s (hx s (List.mem_of_getElem? hr))
    have hsn : (L.take (i + 1)).map leafH = (L.take i).map leafH ++ [leafH s] := by rw [take_get hr, List.map_append]; rfl
    have hvl : ((L.take i).map leafH).length ≤ 8 := by simp; omega
    repeat' (first
        | (simp only [dl_len, hd, h0, dl_nth, Int.toNat_natCast, hr, Option.map_some, onC_true, app_int, ↓wA, ↓wC, wB, frzBE, frzBS, Nat.reduceEqDiff, Nat.reduceAdd, Nat.reduceSub, reduceIte, reduceCtorEq, Nat.reduceBEq, Nat.reduceLT, decide_true])
        | (refine call_det (h) rfl rfl ?_)
        | (refine callP_det (h) rfl rfl ?_)
        | (with_reducible refine onI_bare ?_ ?_; focus (simp only [InR]; omega))
        | (with_reducible refine onC_i ?_ ?_; focus omega)
        | (with_reducible refine onC_i ?_ ?_; focus (simp; done))
        | (refine execG_split (fun h => ?_) (fun h => ?_) <;> simp only [h])
        | (refine execC_split (fun h => ?_) (fun h => ?_) <;> (try simp only [h]))
        | (refine onPick_split (fun h => ?_) (fun h => ?_) <;> (try simp only [h])))
    refine ⟨i + 1, ?_, by omega, by omega⟩
    rw [hsn]
    exact (weak_of _ rfl ⟨⟨rfl, rfl⟩, ⟨rfl, rfl⟩, ⟨rfl, rfl⟩, ⟨rfl, rfl⟩, trivial⟩)
  · intro _ hd
    repeat' (first
        | (simp only [hd, dl_len, List.take_length, ↓wA, ↓wC, wB, frzBE, frzBS, Nat.reduceEqDiff, Nat.reduceAdd, Nat.reduceSub, reduceIte, reduceCtorEq, Nat.reduceBEq, Nat.reduceLT, decide_true])
        | (refine execG_split (fun h => ?_) (fun h => ?_) <;> simp only [h])
        | (refine execC_split (fun h => ?_) (fun h => ?_) <;> (try simp only [h]))
        | (refine onPick_split (fun h => ?_) (fun h => ?_) <;> (try simp only [h])))
theorem l16Round_fn (v : List Int) (hl : v.length ≤ 1000) (hv : ∀ n ∈ v, hashOK n) : Fn prog 72 [.sl false 1 (dl iD v)] (fun rs => rs = [.sl true 1 (dl iD (roundL v))]) := by
  refine Fn_of' (fn := f72) (by exact func72) c72 r72 (n := 38) (by rfl) (rv := [.tmp 2]) (by rfl) (by simp) ?_
  unfold m72
  repeat' (first
      | (simp only [onC_true, dl_len, ↓wA, ↓wC, wB, frzBE, frzBS, Nat.reduceEqDiff, Nat.reduceAdd, Nat.reduceSub, reduceIte, reduceCtorEq, Nat.reduceBEq, Nat.reduceLT, decide_true])
      | (refine execG_split (fun h => ?_) (fun h => ?_) <;> simp only [h])
      | (refine execC_split (fun h => ?_) (fun h => ?_) <;> (try simp only [h]))
      | (refine onPick_split (fun h => ?_) (fun h => ?_) <;> (try simp only [h])))
  refine exec_loop (fun i : Nat => ⟨[(0, .d (.sl false 1 (dl iD v))), (3, .own 0), (4, .d (.int .i64 i))], [.val (.sl true 1 (dl iD (roundL (v.take i))))]⟩) (fun i => i % 2 = 0 ∧ i ≤ v.length + 1) (fun i => v.length + 2 - i) 0 (weak_of _ rfl ⟨⟨rfl, rfl⟩, ⟨rfl, rfl⟩, ⟨rfl, rfl⟩, trivial⟩) ⟨rfl, by omega⟩ ?_
  rintro i ⟨i1, i2⟩
  by_cases hlt : i < v.length
  · obtain ⟨a, ha⟩ := get_lt hlt
    have hA := hv a (List.mem_of_getElem? ha)
    have hd : decide ((i : Int) < (v.length : Int)) = true := decide_eq_true (by omega)
    have h0 : (0 : Int) ≤ (i : Int) := by omega
    have hrl := roundL_len (v.take i)
    rw [List.length_take, Nat.min_eq_left (by omega)] at hrl
    by_cases h2 : i + 1 < v.length
    · obtain ⟨b, hb⟩ := get_lt h2
      have hB := hv b (List.mem_of_getElem? hb)
      have hP := l16Pair_fn a b hA hB
      have hsn := roundL_two i1 ha hb
      have hd2 : decide ((i : Int) + 1 < (v.length : Int)) = true := decide_eq_true (by omega)
      have h02 : (0 : Int) ≤ (i : Int) + 1 := by omega
      have hcast : ((i : Int) + 1).toNat = i + 1 := by omega
      repeat' (first
          | (simp only [dl_len, hd, h0, hd2, h02, hcast, dl_nth, Int.toNat_natCast, ha, hb, Option.map_some, onC_true, rd_iD, iD, app_int, ↓wA, ↓wC, wB, frzBE, frzBS, Nat.reduceEqDiff, Nat.reduceAdd, Nat.reduceSub, reduceIte, reduceCtorEq, Nat.reduceBEq, Nat.reduceLT, decide_true])
          | (refine call_det (hP) rfl rfl ?_)
          | (refine callP_det (hP) rfl rfl ?_)
          | (refine onJ_q ?_)
          | (with_reducible refine onI_bare ?_ ?_; focus (simp only [InR]; omega))
          | (with_reducible refine onC_i ?_ ?_; focus omega)
          | (with_reducible refine onC_i ?_ ?_; focus (simp; done))
          | (refine execG_split (fun h => ?_) (fun h => ?_) <;> simp only [h])
          | (refine execC_split (fun h => ?_) (fun h => ?_) <;> (try simp only [h]))
          | (refine onPick_split (fun h => ?_) (fun h => ?_) <;> (try simp only [h])))
      all_goals
        refine ⟨i + 2, ?_, ⟨by omega, by omega⟩, by omega⟩
        rw [hsn]
        exact (weak_of _ rfl ⟨⟨rfl, rfl⟩, ⟨rfl, rfl⟩, ⟨rfl, rfl⟩, trivial⟩)
    · have hsn := roundL_one i1 ha (by omega)
      have hd2 : decide ((i : Int) + 1 < (v.length : Int)) = false := decide_eq_false (by omega)
      repeat' (first
          | (simp only [dl_len, hd, h0, hd2, dl_nth, Int.toNat_natCast, ha, Option.map_some, onC_true, rd_iD, iD, app_int, ↓wA, ↓wC, wB, frzBE, frzBS, Nat.reduceEqDiff, Nat.reduceAdd, Nat.reduceSub, reduceIte, reduceCtorEq, Nat.reduceBEq, Nat.reduceLT, decide_true])
          | (refine onJ_q ?_)
          | (with_reducible refine onI_bare ?_ ?_; focus (simp only [InR]; omega))
          | (with_reducible refine onC_i ?_ ?_; focus omega)
          | (with_reducible refine onC_i ?_ ?_; focus (simp; done))
          | (refine execG_split (fun h => ?_) (fun h => ?_) <;> simp only [h])
          | (refine execC_split (fun h => ?_) (fun h => ?_) <;> (try simp only [h]))
          | (refine onPick_split (fun h => ?_) (fun h => ?_) <;> (try simp only [h])))
      all_goals
        refine ⟨i + 2, ?_, ⟨by omega, by omega⟩, by omega⟩
        rw [hsn]
        exact (weak_of _ rfl ⟨⟨rfl, rfl⟩, ⟨rfl, rfl⟩, ⟨rfl, rfl⟩, trivial⟩)
  · have hd : decide ((i : Int) < (v.length : Int)) = false := decide_eq_false (by omega)
    have e : v.take i = v := List.take_of_length_le (by omega)
    rw [e]
    repeat' (first
        | (simp only [dl_len, hd, ↓wA, ↓wC, wB, frzBE, frzBS, Nat.reduceEqDiff, Nat.reduceAdd, Nat.reduceSub, reduceIte, reduceCtorEq, Nat.reduceBEq, Nat.reduceLT, decide_true])
        | (refine execG_split (fun h => ?_) (fun h => ?_) <;> simp only [h])
        | (refine execC_split (fun h => ?_) (fun h => ?_) <;> (try simp only [h]))
        | (refine onPick_split (fun h => ?_) (fun h => ?_) <;> (try simp only [h])))
end Go.Pe.Tryd
