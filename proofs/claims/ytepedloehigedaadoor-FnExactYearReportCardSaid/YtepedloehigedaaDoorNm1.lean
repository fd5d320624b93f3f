/- Numbers as decimal text: the library's, and the reference's own road to it. -/
import Derived.Test.YtepedloehigedaaDoorPeC
import Derived.Test.YtepedloehigedaaDoorMc1
import Derived.Test.YtepedloehigedaaDoorShelf
import Derived.Lib.ItoaLen
set_option maxRecDepth 100000
set_option maxHeartbeats 4000000
set_option linter.all false
namespace Go.Pe.Tryd
open Go.Proofs.Tryd Go.Sort
theorem Ext.grow {w : World} (k : Nat) (os : Array Obj) : Ext w (Go.Sort.grow (w.drewN k) os) := by
  refine ⟨rfl, rfl, rfl, ?_, ?_⟩
  · simp [Go.Sort.grow, World.drewN]
  · intro b hb
    simp only [Go.Sort.grow]
    exact Array.getElem?_append_left (xs := w.heap) (ys := os) hb
theorem itoa_fn (n : Int) (h : InR .i64 n) : Fn prog 53 [.int .i64 n] (fun rs => rs = [.str (Lib.itoa n)]) :=
  Fn_lib rfl rfl fun w hF => (Go.Proofs.Tryd.strconv_Itoa n (by simp only [InR] at h; omega) (by simp only [InR] at h; omega) w hF).mono (by
    rintro e w' ⟨rfl, k, os, rfl⟩
    exact ⟨rfl, Ext.grow k os⟩)
theorem decimal_fn (n : Int) (h : InR .i64 n) : Fn prog 33 [.int .i64 n] (fun rs => rs = [.str (Lib.itoa n)]) := by
  refine Fn_of' (fn := f33) (by exact func33) c33 r33 (n := 5) (by rfl) (rv := [.tmp 2]) (by rfl) (by simp) ?_
  unfold m33
  repeat' (first
      | (simp only [↓wA, ↓wC, wB, Nat.reduceEqDiff, Nat.reduceAdd, Nat.reduceSub, reduceIte, reduceCtorEq, Nat.reduceBEq, Nat.reduceLT, decide_true])
      | (refine call_det (itoa_fn n h) rfl rfl ?_)
      | (refine callP_det (itoa_fn n h) rfl rfl ?_)
      | (refine execG_split (fun h => ?_) (fun h => ?_) <;> simp only [h])
      | (refine execC_split (fun h => ?_) (fun h => ?_) <;> (try simp only [h]))
      | (refine onPick_split (fun h => ?_) (fun h => ?_) <;> (try simp only [h])))
/-- the digit of a number below ten, cut from the ten digits. -/
theorem digit_cut : ∀ d : Fin 10, ((([48, 49, 50, 51, 52, 53, 54, 55, 56, 57] : List UInt8).take (d.val + 1)).drop d.val) = [UInt8.ofNat (48 + d.val)] := by decide
/-- numbers as text, by the reference's own road. -/
theorem decDigits_small {u : Nat} (h : u < 10) : Lib.decDigits u = [UInt8.ofNat (48 + u)] := by
  rw [Lib.decDigits, dif_pos h]
theorem decDigits_more {u : Nat} (h : ¬ u < 10) : Lib.decDigits u = Lib.decDigits (u / 10) ++ [UInt8.ofNat (48 + u % 10)] := by
  rw [Lib.decDigits, dif_neg h]
theorem cut_digit (d : Nat) (h : d < 10) : ((([48, 49, 50, 51, 52, 53, 54, 55, 56, 57] : List UInt8).take (d + 1)).drop d) = [UInt8.ofNat (48 + d)] := digit_cut ⟨d, h⟩
theorem itoa_nat (u : Nat) : Lib.itoa (u : Int) = Lib.decDigits u := by
  unfold Lib.itoa
  rw [if_neg (by omega)]
  simp
theorem decDigits_le (u : Nat) (h : u ≤ 9223372036854775807) : (Lib.decDigits u).length ≤ 21 := by
  rw [← itoa_nat]
  exact Lib.itoa_length_le (u : Int) (by omega) (by omega)
theorem itoa_le (n : Int) (h : InR .i64 n) : (Lib.itoa n).length ≤ 21 := by
  simp only [InR] at h
  exact Lib.itoa_length_le n (by omega) (by omega)
theorem l1Num_nat : ∀ (u : Nat), u ≤ 9223372036854775807 → Fn prog 30 [.int .i64 (u : Int)] (fun rs => rs = [.str (Lib.decDigits u)]) := by
  intro u
  induction u using Nat.strongRecOn with
  | _ u ih =>
    intro hu
    have h0 : decide ((u : Int) < 0) = false := decide_eq_false (by omega)
    refine Fn_of' (fn := f30) (by exact func30) c30 r30 (n := 25) (by rfl) (rv := [.tmp 2]) (by rfl) (by simp) ?_
    unfold m30
    try simp only [h0, ↓wA, ↓wC, wB, Nat.reduceEqDiff, Nat.reduceAdd, Nat.reduceSub, reduceIte, reduceCtorEq, Nat.reduceBEq, Nat.reduceLT, decide_true]
    by_cases h : u < 10
    · have hd : decide ((u : Int) < 10) = true := decide_eq_true (by omega)
      have hp : (0 : Int) ≤ (u : Int) := by omega
      try simp only [hd, ↓wA, ↓wC, wB, Nat.reduceEqDiff, Nat.reduceAdd, Nat.reduceSub, reduceIte, reduceCtorEq, Nat.reduceBEq, Nat.reduceLT, decide_true]
      refine onI_bare (by simp only [InR]; omega) ?_
      try simp only [hd, hp, ↓wA, ↓wC, wB, Nat.reduceEqDiff, Nat.reduceAdd, Nat.reduceSub, reduceIte, reduceCtorEq, Nat.reduceBEq, Nat.reduceLT, decide_true]
      refine onC_i ⟨by omega, by omega⟩ ?_
      rw [show ((u : Int) + 1).toNat = u + 1 by omega, Int.toNat_natCast, cut_digit u h, decDigits_small h]
    · have hd : decide ((u : Int) < 10) = false := decide_eq_false (by omega)
      have hq : ((u : Int)).tdiv 10 = ((u / 10 : Nat) : Int) := by rw [Int.tdiv_eq_ediv_of_nonneg (by omega)]; omega
      have hr : ((u : Int)).tmod 10 = ((u % 10 : Nat) : Int) := by rw [Int.tmod_eq_emod_of_nonneg (by omega)]; omega
      try simp only [hd, hq, hr, ↓wA, ↓wC, wB, Nat.reduceEqDiff, Nat.reduceAdd, Nat.reduceSub, reduceIte, reduceCtorEq, Nat.reduceBEq, Nat.reduceLT, decide_true]
      refine onC_i (by decide) ?_
      refine onI_bare (by simp only [InR]; omega) ?_
      refine callP_det (ih (u / 10) (by omega) (by omega)) rfl rfl ?_
      try simp only [hr, ↓wA, ↓wC, wB, Nat.reduceEqDiff, Nat.reduceAdd, Nat.reduceSub, reduceIte, reduceCtorEq, Nat.reduceBEq, Nat.reduceLT, decide_true]
      refine onC_i (by decide) ?_
      refine onC_i (by decide) ?_
      refine onI_bare (by simp only [InR]; omega) ?_
      have hp : (0 : Int) ≤ ((u % 10 : Nat) : Int) := by omega
      try simp only [hp, ↓wA, ↓wC, wB, Nat.reduceEqDiff, Nat.reduceAdd, Nat.reduceSub, reduceIte, reduceCtorEq, Nat.reduceBEq, Nat.reduceLT, decide_true]
      refine onC_i ⟨by omega, by omega⟩ ?_
      rw [show (((u % 10 : Nat) : Int) + 1).toNat = u % 10 + 1 by omega, Int.toNat_natCast, cut_digit (u % 10) (by omega)]
      try simp only [↓wA, ↓wC, wB, Nat.reduceEqDiff, Nat.reduceAdd, Nat.reduceSub, reduceIte, reduceCtorEq, Nat.reduceBEq, Nat.reduceLT, decide_true]
      refine onC_i (by have := decDigits_le (u / 10) (by omega); omega) ?_
      rw [decDigits_more h]
theorem l1Num_fn (n : Int) (h0 : 0 ≤ n) (h : InR .i64 n) : Fn prog 30 [.int .i64 n] (fun rs => rs = [.str (Lib.itoa n)]) := by
  obtain ⟨u, rfl⟩ := Int.eq_ofNat_of_zero_le h0
  rw [itoa_nat]
  exact l1Num_nat u (by simp only [InR] at h; omega)
end Go.Pe.Tryd
