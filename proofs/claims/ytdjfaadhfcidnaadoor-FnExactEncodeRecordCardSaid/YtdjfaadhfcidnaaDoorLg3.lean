/- The law of EncodeRecord, walked. -/
import Derived.Test.YtdjfaadhfcidnaaDoorLg2
import Derived.Test.YtdjfaadhfcidnaaDoorLgM
import Derived.Lib.ItoaLen
set_option maxRecDepth 100000
set_option maxHeartbeats 4000000
set_option linter.all false
namespace Go.Pe.Tryd
open Go.Proofs.Tryd Go.Sort
theorem Ext.grow {w : World} (k : Nat) (os : Array Obj) : Ext w (Go.Sort.grow (w.drewN k) os) := by
  refine ⟨rfl, rfl, rfl, ?_, ?_⟩
  · simp [Go.Sort.grow, World.drewN]
  · intro b hb
    simp only [Go.Sort.grow]
    exact Array.getElem?_append_left (xs := w.heap) (ys := os) hb
theorem itoa_fn (n : Int) (h : InR .i64 n) : Fn prog 68 [.int .i64 n] (fun rs => rs = [.str (Lib.itoa n)]) :=
  Fn_lib rfl rfl fun w hF => (Go.Proofs.Tryd.strconv_Itoa n (by simp only [InR] at h; omega) (by simp only [InR] at h; omega) w hF).mono (by
    rintro e w' ⟨rfl, k, os, rfl⟩
    exact ⟨rfl, Ext.grow k os⟩)
theorem decimal_fn (n : Int) (h : InR .i64 n) : Fn prog 47 [.int .i64 n] (fun rs => rs = [.str (Lib.itoa n)]) := by
  refine Fn_of' (fn := f47) (by exact func47) c47 r47 (n := 5) (by rfl) (rv := [.tmp 2]) (by rfl) (by simp) ?_
  unfold m47
  repeat' (first
      | (simp only [↓wA, ↓wC, wB, Nat.reduceEqDiff, Nat.reduceAdd, Nat.reduceSub, reduceIte, reduceCtorEq, Nat.reduceBEq, Nat.reduceLT, decide_true])
      | (refine call_det (itoa_fn n h) rfl rfl ?_)
      | (refine callP_det (itoa_fn n h) rfl rfl ?_)
      | (refine execG_split (fun h => ?_) (fun h => ?_) <;> simp only [h])
      | (refine execC_split (fun h => ?_) (fun h => ?_) <;> (try simp only [h]))
      | (refine onPick_split (fun h => ?_) (fun h => ?_) <;> (try simp only [h])))
/-- the digit of a number below ten, cut from the ten digits. -/
theorem digit_cut : ∀ d : Fin 10, ((([48, 49, 50, 51, 52, 53, 54, 55, 56, 57] : List UInt8).take (d.val + 1)).drop d.val) = [UInt8.ofNat (48 + d.val)] := by decide
theorem checksum_fn (s : List UInt8) (hl : s.length ≤ maxLen) : Fn prog 67 [.str s] (fun rs => rs = [.int .i64 (ck s)]) := by
  rw [maxLen_eq] at hl
  refine Fn_of' (fn := f67) (by exact func67) c67 r67 (n := 21) (by rfl) (rv := [.tmp 2]) (by rfl) (by simp) ?_
  unfold m67
  simp only [↓wA, ↓wC, wB, Nat.reduceEqDiff, Nat.reduceAdd, Nat.reduceSub, reduceIte, reduceCtorEq, Nat.reduceBEq, Nat.reduceLT, decide_true]
  refine exec_loop (fun i : Nat => ⟨[(0, .d (.str s)), (3, .d (.int .i64 (ck (s.take i)))), (6, .d (.int .i64 s.length)), (7, .d (.int .i64 i))], []⟩)
    (fun i => i ≤ s.length) (fun i => s.length - i) 0 (weak_of [] rfl ⟨⟨rfl, rfl⟩, ⟨rfl, rfl⟩, ⟨rfl, rfl⟩, ⟨rfl, rfl⟩, trivial⟩) (Nat.zero_le _) ?_
  rintro i hi
  by_cases hlt : i < s.length
  · obtain ⟨b, hb⟩ := get_lt hlt
    have hd : decide ((i : Int) < (s.length : Int)) = true := decide_eq_true (by omega)
    have h0 : (0 : Int) ≤ (i : Int) := by omega
    have hbl : (b.toNat : Int) < 256 := by have := b.toNat_lt; omega
    have hck := ck_bd (s.take i)
    have hne : decide ((999979 : Int) = 0) = false := by decide
    have hstep : ck (s.take (i + 1)) = (41 * ck (s.take i) + b.toNat + 1) % 999979 := by
      have hi := lt_of_get hb
      rw [List.take_succ_eq_append_getElem hi]
      have : s[i] = b := by rw [List.getElem?_eq_getElem hi] at hb; injection hb
      unfold ck
      rw [List.foldl_append, this]; rfl
    have htm : (41 * ck (s.take i) + b.toNat + 1).tmod 999979 = ck (s.take (i + 1)) := by rw [hstep, Int.tmod_eq_emod_of_nonneg (by omega)]
    have h99 : (999979 : Int) ≠ 0 := by decide
    repeat' (first
        | (simp only [hd, h0, hb, Int.toNat_natCast, onC_true, htm, h99, ne_eq, not_false_eq_true, ↓wA, ↓wC, wB, Nat.reduceEqDiff, Nat.reduceAdd, Nat.reduceSub, reduceIte, reduceCtorEq, Nat.reduceBEq, Nat.reduceLT, decide_true])
        | (refine onC_i (by decide) ?_)
        | (refine onI_bare (by simp only [InR]; omega) ?_)
        | (refine execG_split (fun h => ?_) (fun h => ?_) <;> simp only [h])
        | (refine execC_split (fun h => ?_) (fun h => ?_) <;> (try simp only [h]))
        | (refine onPick_split (fun h => ?_) (fun h => ?_) <;> (try simp only [h])))
    all_goals exact ⟨i + 1, weak_of [] rfl ⟨⟨rfl, rfl⟩, ⟨rfl, rfl⟩, ⟨rfl, rfl⟩, ⟨rfl, rfl⟩, trivial⟩, by omega, by omega⟩
  · have hd : decide ((i : Int) < (s.length : Int)) = false := decide_eq_false (by omega)
    simp only [hd, ↓wA, ↓wC, wB, Nat.reduceEqDiff, Nat.reduceAdd, Nat.reduceSub, reduceIte, reduceCtorEq, Nat.reduceBEq, Nat.reduceLT, decide_true]
    rw [List.take_of_length_le (by omega)]
theorem l1Sum_fn (s : List UInt8) (hl : s.length ≤ maxLen) : Fn prog 76 [.str s] (fun rs => rs = [.int .i64 (ck s)]) := by
  rw [maxLen_eq] at hl
  refine Fn_of' (fn := f76) (by exact func76) c76 r76 (n := 21) (by rfl) (rv := [.tmp 2]) (by rfl) (by simp) ?_
  unfold m76
  simp only [↓wA, ↓wC, wB, Nat.reduceEqDiff, Nat.reduceAdd, Nat.reduceSub, reduceIte, reduceCtorEq, Nat.reduceBEq, Nat.reduceLT, decide_true]
  refine exec_loop (fun i : Nat => ⟨[(0, .d (.str s)), (3, .d (.int .i64 (ck (s.take i)))), (4, .d (.int .i64 i))], []⟩)
    (fun i => i ≤ s.length) (fun i => s.length - i) 0 (weak_of [] rfl ⟨⟨rfl, rfl⟩, ⟨rfl, rfl⟩, ⟨rfl, rfl⟩, trivial⟩) (Nat.zero_le _) ?_
  rintro i hi
  by_cases hlt : i < s.length
  · obtain ⟨b, hb⟩ := get_lt hlt
    have hd : decide ((i : Int) < (s.length : Int)) = true := decide_eq_true (by omega)
    have h0 : (0 : Int) ≤ (i : Int) := by omega
    have hbl : (b.toNat : Int) < 256 := by have := b.toNat_lt; omega
    have hck := ck_bd (s.take i)
    have hstep : ck (s.take (i + 1)) = (41 * ck (s.take i) + b.toNat + 1) % 999979 := by
      have hi := lt_of_get hb
      rw [List.take_succ_eq_append_getElem hi]
      have : s[i] = b := by rw [List.getElem?_eq_getElem hi] at hb; injection hb
      unfold ck
      rw [List.foldl_append, this]; rfl
    have htm : (41 * ck (s.take i) + b.toNat + 1).tmod 999979 = ck (s.take (i + 1)) := by rw [hstep, Int.tmod_eq_emod_of_nonneg (by omega)]
    have h99 : (999979 : Int) ≠ 0 := by decide
    repeat' (first
        | (simp only [hd, h0, hb, Int.toNat_natCast, onC_true, htm, h99, ne_eq, not_false_eq_true, ↓wA, ↓wC, wB, Nat.reduceEqDiff, Nat.reduceAdd, Nat.reduceSub, reduceIte, reduceCtorEq, Nat.reduceBEq, Nat.reduceLT, decide_true])
        | (refine onC_i (by decide) ?_)
        | (refine onI_bare (by simp only [InR]; omega) ?_)
        | (refine execG_split (fun h => ?_) (fun h => ?_) <;> simp only [h])
        | (refine execC_split (fun h => ?_) (fun h => ?_) <;> (try simp only [h]))
        | (refine onPick_split (fun h => ?_) (fun h => ?_) <;> (try simp only [h])))
    all_goals exact ⟨i + 1, weak_of [] rfl ⟨⟨rfl, rfl⟩, ⟨rfl, rfl⟩, ⟨rfl, rfl⟩, trivial⟩, by omega, by omega⟩
  · have hd : decide ((i : Int) < (s.length : Int)) = false := decide_eq_false (by omega)
    simp only [hd, ↓wA, ↓wC, wB, Nat.reduceEqDiff, Nat.reduceAdd, Nat.reduceSub, reduceIte, reduceCtorEq, Nat.reduceBEq, Nat.reduceLT, decide_true]
    rw [List.take_of_length_le (by omega)]
/-- numbers as text, by the reference's own road. -/
theorem decDigits_small {u : Nat} (h : u < 10) : Lib.decDigits u = [UInt8.ofNat (48 + u)] := by
  rw [Lib.decDigits, dif_pos h]
theorem decDigits_more {u : Nat} (h : ¬ u < 10) : Lib.decDigits u = Lib.decDigits (u / 10) ++ [UInt8.ofNat (48 + u % 10)] := by
  rw [Lib.decDigits, dif_neg h]
theorem cut_digit (d : Nat) (h : d < 10) : ((([48, 49, 50, 51, 52, 53, 54, 55, 56, 57] : List UInt8).take (d + 1)).drop d) = [UInt8.ofNat (48 + d)] := digit_cut ⟨d, h⟩
theorem itoa_nat (u : Nat) : Lib.itoa (u : Int) = Lib.decDigits u := by
  unfold Lib.itoa
  rw [if_neg (by omega)]
  simp
theorem decDigits_le (u : Nat) (h : u ≤ 9223372036854775807) : (Lib.decDigits u).length ≤ 21 := by
  rw [← itoa_nat]
  exact Lib.itoa_length_le (u : Int) (by omega) (by omega)
theorem itoa_le (n : Int) (h : InR .i64 n) : (Lib.itoa n).length ≤ 21 := by
  simp only [InR] at h
  exact Lib.itoa_length_le n (by omega) (by omega)
theorem l1Num_nat : ∀ (u : Nat), u ≤ 9223372036854775807 → Fn prog 66 [.int .i64 (u : Int)] (fun rs => rs = [.str (Lib.decDigits u)]) := by
  intro u
  induction u using Nat.strongRecOn with
  | _ u ih =>
    intro hu
    have h0 : decide ((u : Int) < 0) = false := decide_eq_false (by omega)
    refine Fn_of' (fn := f66) (by exact func66) c66 r66 (n := 25) (by rfl) (rv := [.tmp 2]) (by rfl) (by simp) ?_
    unfold m66
    try simp only [h0, ↓wA, ↓wC, wB, Nat.reduceEqDiff, Nat.reduceAdd, Nat.reduceSub, reduceIte, reduceCtorEq, Nat.reduceBEq, Nat.reduceLT, decide_true]
    by_cases h : u < 10
    · have hd : decide ((u : Int) < 10) = true := decide_eq_true (by omega)
      have hp : (0 : Int) ≤ (u : Int) := by omega
      try simp only [hd, ↓wA, ↓wC, wB, Nat.reduceEqDiff, Nat.reduceAdd, Nat.reduceSub, reduceIte, reduceCtorEq, Nat.reduceBEq, Nat.reduceLT, decide_true]
      refine onI_bare (by simp only [InR]; omega) ?_
      try simp only [hd, hp, ↓wA, ↓wC, wB, Nat.reduceEqDiff, Nat.reduceAdd, Nat.reduceSub, reduceIte, reduceCtorEq, Nat.reduceBEq, Nat.reduceLT, decide_true]
      refine onC_i ⟨by omega, by omega⟩ ?_
      rw [show ((u : Int) + 1).toNat = u + 1 by omega, Int.toNat_natCast, cut_digit u h, decDigits_small h]
    · have hd : decide ((u : Int) < 10) = false := decide_eq_false (by omega)
      have hq : ((u : Int)).tdiv 10 = ((u / 10 : Nat) : Int) := by rw [Int.tdiv_eq_ediv_of_nonneg (by omega)]; omega
      have hr : ((u : Int)).tmod 10 = ((u % 10 : Nat) : Int) := by rw [Int.tmod_eq_emod_of_nonneg (by omega)]; omega
      try simp only [hd, hq, hr, ↓wA, ↓wC, wB, Nat.reduceEqDiff, Nat.reduceAdd, Nat.reduceSub, reduceIte, reduceCtorEq, Nat.reduceBEq, Nat.reduceLT, decide_true]
      refine onC_i (by decide) ?_
      refine onI_bare (by simp only [InR]; omega) ?_
      refine callP_det (ih (u / 10) (by omega) (by omega)) rfl rfl ?_
      try simp only [hr, ↓wA, ↓wC, wB, Nat.reduceEqDiff, Nat.reduceAdd, Nat.reduceSub, reduceIte, reduceCtorEq, Nat.reduceBEq, Nat.reduceLT, decide_true]
      refine onC_i (by decide) ?_
      refine onC_i (by decide) ?_
      refine onI_bare (by simp only [InR]; omega) ?_
      have hp : (0 : Int) ≤ ((u % 10 : Nat) : Int) := by omega
      try simp only [hp, ↓wA, ↓wC, wB, Nat.reduceEqDiff, Nat.reduceAdd, Nat.reduceSub, reduceIte, reduceCtorEq, Nat.reduceBEq, Nat.reduceLT, decide_true]
      refine onC_i ⟨by omega, by omega⟩ ?_
      rw [show (((u % 10 : Nat) : Int) + 1).toNat = u % 10 + 1 by omega, Int.toNat_natCast, cut_digit (u % 10) (by omega)]
      try simp only [↓wA, ↓wC, wB, Nat.reduceEqDiff, Nat.reduceAdd, Nat.reduceSub, reduceIte, reduceCtorEq, Nat.reduceBEq, Nat.reduceLT, decide_true]
      refine onC_i (by have := decDigits_le (u / 10) (by omega); omega) ?_
      rw [decDigits_more h]
theorem l1Num_fn (n : Int) (h0 : 0 ≤ n) (h : InR .i64 n) : Fn prog 66 [.int .i64 n] (fun rs => rs = [.str (Lib.itoa n)]) := by
  obtain ⟨u, rfl⟩ := Int.eq_ofNat_of_zero_le h0
  rw [itoa_nat]
  exact l1Num_nat u (by simp only [InR] at h; omega)
theorem ck_InR (s : List UInt8) : InR .i64 (ck s) := by
  have := ck_bd s
  simp only [InR]; omega
theorem sealL_eq (s : List UInt8) : s ++ [35] ++ Lib.itoa (ck s) = sealL s := by simp [sealL]
theorem l1Seal_fn (s : List UInt8) (hl : s.length ≤ 4000) : Fn prog 65 [.str s] (fun rs => rs = [.str (sealL s)]) := by
  have hm : s.length ≤ maxLen := by rw [maxLen_eq]; omega
  have hi := itoa_le (ck s) (ck_InR s)
  refine Fn_of' (fn := f65) (by exact func65) c65 r65 (n := 9) (by rfl) (rv := [.tmp 2]) (by rfl) (by simp) ?_
  unfold m65
  repeat' (first
      | (simp only [↓wA, ↓wC, wB, Nat.reduceEqDiff, Nat.reduceAdd, Nat.reduceSub, reduceIte, reduceCtorEq, Nat.reduceBEq, Nat.reduceLT, decide_true])
      | (refine call_det (l1Sum_fn s hm) rfl rfl ?_)
      | (refine callP_det (l1Sum_fn s hm) rfl rfl ?_)
      | (refine call_det (l1Num_fn (ck s) (ck_bd s).1 (ck_InR s)) rfl rfl ?_)
      | (refine callP_det (l1Num_fn (ck s) (ck_bd s).1 (ck_InR s)) rfl rfl ?_)
      | (refine onC_i (by (try simp only [List.length_append, List.length_cons, List.length_nil]); omega) ?_)
      | (refine execG_split (fun h => ?_) (fun h => ?_) <;> simp only [h])
      | (refine execC_split (fun h => ?_) (fun h => ?_) <;> (try simp only [h]))
      | (refine onPick_split (fun h => ?_) (fun h => ?_) <;> (try simp only [h])))
  all_goals simp [sealL]
theorem appendChecksum_fn (s : List UInt8) (hl : s.length ≤ 3000) (hs : (35 : UInt8) ∉ s) : Fn prog 46 [.str s] (fun rs => rs = [.str (sealL s), .bool true]) := by
  have hm : s.length ≤ maxLen := by rw [maxLen_eq]; omega
  have hi := itoa_le (ck s) (ck_InR s)
  have hd : decide ((s.length : Int) > 4000) = false := decide_eq_false (by omega)
  have hd' : decide ((4000 : Int) < (s.length : Int)) = false := decide_eq_false (by omega)
  have hc : s.contains 35 = false := by
    cases h : s.contains 35 with
    | false => rfl
    | true => exact absurd (List.contains_iff_mem.1 h) hs
  have hl2 : (sealL s).length ≤ 4000 := by
    simp only [sealL, List.length_append, List.length_cons]; omega
  have hd2 : decide (((sealL s).length : Int) > 4000) = false := decide_eq_false (by omega)
  have hd2' : decide ((4000 : Int) < ((sealL s).length : Int)) = false := decide_eq_false (by omega)
  have hd3 : decide ((4000 : Int) < ((s.length + ((Lib.itoa (ck s)).length + 1) : Nat) : Int)) = false := decide_eq_false (by omega)
  refine Fn_of' (fn := f46) (by exact func46) c46 r46 (n := 22) (by rfl) (rv := [.tmp 2, .tmp 3]) (by rfl) (by simp) ?_
  unfold m46
  repeat' (first
      | (simp only [hd, hd', hc, sealL_eq, hd2, hd2', hd3, ↓wA, ↓wC, wB, Nat.reduceEqDiff, Nat.reduceAdd, Nat.reduceSub, reduceIte, reduceCtorEq, Nat.reduceBEq, Nat.reduceLT, decide_true])
      | (refine call_det (contains_fn s 35) rfl rfl ?_)
      | (refine callP_det (contains_fn s 35) rfl rfl ?_)
      | (refine call_det (checksum_fn s hm) rfl rfl ?_)
      | (refine callP_det (checksum_fn s hm) rfl rfl ?_)
      | (refine call_det (decimal_fn (ck s) (ck_InR s)) rfl rfl ?_)
      | (refine callP_det (decimal_fn (ck s) (ck_InR s)) rfl rfl ?_)
      | (refine onC_i (by (try simp only [List.length_append, List.length_cons, List.length_nil]); omega) ?_)
      | (refine execG_split (fun h => ?_) (fun h => ?_) <;> simp only [h])
      | (refine execC_split (fun h => ?_) (fun h => ?_) <;> (try simp only [h]))
      | (refine onPick_split (fun h => ?_) (fun h => ?_) <;> (try simp only [h])))
  all_goals first | rfl | (simp [sealL])
theorem body_eq (k : Int) (c r : List UInt8) : Lib.itoa k ++ [32] ++ c ++ [64] ++ r = body k c r := by simp [body]
theorem body_len {k : Int} {c r : List UInt8} (hk : InR .i64 k) (h : recOK c r = true) : (body k c r).length ≤ 400 := by
  have := itoa_le k hk
  obtain ⟨h1, h2, h3, _⟩ := rec_parts h
  simp only [body, List.length_append, List.length_cons]; omega
theorem line_len {k : Int} {c r : List UInt8} (hk : InR .i64 k) (h : recOK c r = true) : (line k c r).length ≤ 430 := by
  have h1 := body_len hk h
  have := itoa_le (ck (body k c r)) (ck_InR _)
  simp only [line, sealL, List.length_append, List.length_cons]; omega
theorem l27Line_fn (k : Int) (c r : List UInt8) (h0 : 0 ≤ k) (hk : InR .i64 k) (h : recOK c r = true) : Fn prog 44 [.int .i64 k, recD c r] (fun rs => rs = [.str (line k c r ++ [10])]) := by
  have hi := itoa_le k hk
  obtain ⟨h1, h2, h3, _⟩ := rec_parts h
  have hb := body_len hk h
  have hl := line_len hk h
  unfold line at hl
  refine Fn_of' (fn := f44) (by exact func44) c44 r44 (n := 17) (by rfl) (rv := [.tmp 4]) (by rfl) (by simp) ?_
  unfold m44
  simp only [recD]
  repeat' (first
      | (simp only [body_eq, ↓wA, ↓wC, wB, Nat.reduceEqDiff, Nat.reduceAdd, Nat.reduceSub, reduceIte, reduceCtorEq, Nat.reduceBEq, Nat.reduceLT, decide_true])
      | (refine call_det (l1Num_fn k h0 hk) rfl rfl ?_)
      | (refine callP_det (l1Num_fn k h0 hk) rfl rfl ?_)
      | (refine call_det (l1Seal_fn (body k c r) (by omega)) rfl rfl ?_)
      | (refine callP_det (l1Seal_fn (body k c r) (by omega)) rfl rfl ?_)
      | (refine onC_i (by (try simp only [List.length_append, List.length_cons, List.length_nil]); omega) ?_)
      | (refine execG_split (fun h => ?_) (fun h => ?_) <;> simp only [h])
      | (refine execC_split (fun h => ?_) (fun h => ?_) <;> (try simp only [h]))
      | (refine onPick_split (fun h => ?_) (fun h => ?_) <;> (try simp only [h])))
  all_goals rfl
/-- what encodes a record. -/
def encR (k : Int) (c r : List UInt8) : List D := if within k 0 59 = true ∧ recOK c r = true then [.str (line k c r ++ [10]), .bool true] else [.str [], .bool false]
theorem within_InR {k : Int} (h : within k 0 59 = true) : 0 ≤ k ∧ InR .i64 k := by
  simp only [within, Bool.and_eq_true, decide_eq_true_eq] at h
  simp only [InR]; omega
theorem specEncode_fn (k : Int) (c r : List UInt8) (hc : c.length ≤ maxLen) (hr : r.length ≤ maxLen) : Fn prog 14 [.int .i64 k, recD c r] (fun rs => rs = encR k c r) := by
  have hg := l27Good_fn c r hc hr
  refine Fn_of' (fn := f14) (by exact func14) c14 r14 (n := 17) (by rfl) (rv := [.tmp 4, .tmp 5]) (by rfl) (by simp) ?_
  unfold m14
  cases h1 : within k 0 59 with
  | false =>
    have hw := l1In_fn k 0 59
    rw [h1] at hw
    simp only [recD] at hg ⊢
    repeat' (first
        | (simp only [↓wA, ↓wC, wB, Nat.reduceEqDiff, Nat.reduceAdd, Nat.reduceSub, reduceIte, reduceCtorEq, Nat.reduceBEq, Nat.reduceLT, decide_true])
        | (refine call_det hw rfl rfl ?_)
        | (refine call_det hg rfl rfl ?_)
        | (refine execG_split (fun h => ?_) (fun h => ?_) <;> simp only [h])
        | (refine execC_split (fun h => ?_) (fun h => ?_) <;> (try simp only [h]))
        | (refine onPick_split (fun h => ?_) (fun h => ?_) <;> (try simp only [h])))
    all_goals simp [encR, h1]
  | true =>
    have hw := l1In_fn k 0 59
    rw [h1] at hw
    cases h2 : recOK c r with
    | false =>
      rw [h2] at hg
      simp only [recD] at hg ⊢
      repeat' (first
          | (simp only [↓wA, ↓wC, wB, Nat.reduceEqDiff, Nat.reduceAdd, Nat.reduceSub, reduceIte, reduceCtorEq, Nat.reduceBEq, Nat.reduceLT, decide_true])
          | (refine call_det hw rfl rfl ?_)
          | (refine call_det hg rfl rfl ?_)
          | (refine execG_split (fun h => ?_) (fun h => ?_) <;> simp only [h])
          | (refine execC_split (fun h => ?_) (fun h => ?_) <;> (try simp only [h]))
          | (refine onPick_split (fun h => ?_) (fun h => ?_) <;> (try simp only [h])))
      all_goals simp [encR, h1, h2]
    | true =>
      rw [h2] at hg
      obtain ⟨h0, hk⟩ := within_InR h1
      have hl := l27Line_fn k c r h0 hk h2
      simp only [recD] at hg hl ⊢
      repeat' (first
          | (simp only [↓wA, ↓wC, wB, Nat.reduceEqDiff, Nat.reduceAdd, Nat.reduceSub, reduceIte, reduceCtorEq, Nat.reduceBEq, Nat.reduceLT, decide_true])
          | (refine call_det hw rfl rfl ?_)
          | (refine call_det hg rfl rfl ?_)
          | (refine call_det hl rfl rfl ?_)
          | (refine execG_split (fun h => ?_) (fun h => ?_) <;> simp only [h])
          | (refine execC_split (fun h => ?_) (fun h => ?_) <;> (try simp only [h]))
          | (refine onPick_split (fun h => ?_) (fun h => ?_) <;> (try simp only [h])))
      all_goals simp [encR, h1, h2]
theorem encode_fn (k : Int) (c r : List UInt8) (hc : c.length ≤ maxLen) (hr : r.length ≤ maxLen) : Fn prog 16 [.int .i64 k, recD c r] (fun rs => rs = encR k c r) := by
  have hg := isValidRecord_fn c r hc hr
  refine Fn_of' (fn := f16) (by exact func16) c16 r16 (n := 33) (by rfl) (rv := [.tmp 4, .tmp 5]) (by rfl) (by simp) ?_
  unfold m16
  cases h1 : within k 0 59 with
  | false =>
    have hw := within_fn k 0 59
    rw [h1] at hw
    simp only [recD] at hg ⊢
    repeat' (first
        | (simp only [↓wA, ↓wC, wB, Nat.reduceEqDiff, Nat.reduceAdd, Nat.reduceSub, reduceIte, reduceCtorEq, Nat.reduceBEq, Nat.reduceLT, decide_true])
        | (refine call_det hw rfl rfl ?_)
        | (refine call_det hg rfl rfl ?_)
        | (refine execG_split (fun h => ?_) (fun h => ?_) <;> simp only [h])
        | (refine execC_split (fun h => ?_) (fun h => ?_) <;> (try simp only [h]))
        | (refine onPick_split (fun h => ?_) (fun h => ?_) <;> (try simp only [h])))
    all_goals simp [encR, h1]
  | true =>
    have hw := within_fn k 0 59
    rw [h1] at hw
    cases h2 : recOK c r with
    | false =>
      rw [h2] at hg
      simp only [recD] at hg ⊢
      repeat' (first
          | (simp only [↓wA, ↓wC, wB, Nat.reduceEqDiff, Nat.reduceAdd, Nat.reduceSub, reduceIte, reduceCtorEq, Nat.reduceBEq, Nat.reduceLT, decide_true])
          | (refine call_det hw rfl rfl ?_)
          | (refine call_det hg rfl rfl ?_)
          | (refine execG_split (fun h => ?_) (fun h => ?_) <;> simp only [h])
          | (refine execC_split (fun h => ?_) (fun h => ?_) <;> (try simp only [h]))
          | (refine onPick_split (fun h => ?_) (fun h => ?_) <;> (try simp only [h])))
      all_goals simp [encR, h1, h2]
    | true =>
      rw [h2] at hg
      obtain ⟨h0, hk⟩ := within_InR h1
      have hi := itoa_le k hk
      obtain ⟨h3, h4, h5, _⟩ := rec_parts h2
      have hb := body_len hk h2
      have hl := line_len hk h2
      unfold line at hl
      have ha := appendChecksum_fn (body k c r) (by omega) (body_no35 h2)
      simp only [recD] at hg ⊢
      repeat' (first
          | (simp only [body_eq, ↓wA, ↓wC, wB, Nat.reduceEqDiff, Nat.reduceAdd, Nat.reduceSub, reduceIte, reduceCtorEq, Nat.reduceBEq, Nat.reduceLT, decide_true])
          | (refine call_det hw rfl rfl ?_)
          | (refine call_det hg rfl rfl ?_)
          | (refine callP_det (decimal_fn k hk) rfl rfl ?_)
          | (refine callP_det ha rfl rfl ?_)
          | (refine onC_i (by (try simp only [List.length_append, List.length_cons, List.length_nil]); omega) ?_)
          | (refine execG_split (fun h => ?_) (fun h => ?_) <;> simp only [h])
          | (refine execC_split (fun h => ?_) (fun h => ?_) <;> (try simp only [h]))
          | (refine onPick_split (fun h => ?_) (fun h => ?_) <;> (try simp only [h])))
      all_goals simp [encR, h1, h2, line]
theorem law4_fn (k : Int) (c r : List UInt8) (hc : c.length ≤ maxLen) (hr : r.length ≤ maxLen) : Fn prog 3 [.int .i64 k, recD c r] (fun rs => rs = [.bool true]) := by
  have hS := specEncode_fn k c r hc hr
  have hI := encode_fn k c r hc hr
  have key : ∀ (a : List UInt8) (b : Bool), Fn prog 14 [.int .i64 k, recD c r] (fun rs => rs = [.str a, .bool b]) → Fn prog 16 [.int .i64 k, recD c r] (fun rs => rs = [.str a, .bool b]) → Fn prog 3 [.int .i64 k, recD c r] (fun rs => rs = [.bool true]) := by
    intro a b hS hI
    have hz := szLogRecord_fn c r hc hr
    have ht := toLogRecord_fn c r
    refine Fn_of' (fn := f3) (by exact func3) c3 r3 (n := 37) (by rfl) (rv := [.tmp 4]) (by rfl) (by simp) ?_
    unfold m3
    simp only [recD] at hS hI hz ht ⊢
    repeat' (first
        | (simp only [↓wA, ↓wC, wB, Nat.reduceEqDiff, Nat.reduceAdd, Nat.reduceSub, reduceIte, reduceCtorEq, Nat.reduceBEq, Nat.reduceLT, decide_true])
        | (refine call_det hz rfl rfl ?_)
        | (refine call_det ht rfl rfl ?_)
        | (refine call_det hS rfl rfl ?_)
        | (refine call_det hI rfl rfl ?_)
        | (refine execG_split (fun h => ?_) (fun h => ?_) <;> simp only [h])
        | (refine execC_split (fun h => ?_) (fun h => ?_) <;> (try simp only [h]))
        | (refine onPick_split (fun h => ?_) (fun h => ?_) <;> (try simp only [h])))
    all_goals simp_all
  unfold encR at hS hI
  split at hS
  · rename_i h
    rw [if_pos h] at hI
    exact key _ _ hS hI
  · rename_i h
    rw [if_neg h] at hI
    exact key _ _ hS hI
theorem law4 (x0 x1 : D) (h0 : Typed (.int .i64) x0) (h1 : Typed (.st (.cons .str (.cons .str .nil))) x1) : Fn prog 3 [x0, x1] (fun rs => rs = [.bool true]) := by
  obtain ⟨k, rfl, _⟩ := h0
  obtain ⟨_, rfl, _, _, rfl, ⟨c, rfl, hc⟩, _, _, rfl, ⟨r, rfl, hr⟩, rfl⟩ := h1
  exact law4_fn k c r hc hr
end Go.Pe.Tryd
