/- Greatest common divisors and shares in lowest terms, walked. -/
import Derived.Test.YtbkjloohaahmdaaPeD
import Derived.Test.YtbkjloohaahmdaaMc1
import Derived.Test.YtbkjloohaahmdaaMc2
set_option maxRecDepth 100000
set_option maxHeartbeats 4000000
set_option linter.all false
namespace Go.Pe.Try
open Go.Proofs.Try
theorem l1Most_fn (a b : Int) : Fn prog 100 [.int .i64 a, .int .i64 b] (fun rs => rs = [.int .i64 (if b < a then a else b)]) := by
  refine Fn_of' (fn := f100) (by exact func100) c100 r100 (n := 10) (by rfl) (rv := [.tmp 4]) (by rfl) (by simp) ?_
  unfold m100
  repeat' (first
      | (simp only [↓wA, ↓wC, wB, frzBE, frzBS, Nat.reduceEqDiff, Nat.reduceAdd, Nat.reduceSub, reduceIte, reduceCtorEq, Nat.reduceBEq, Nat.reduceLT, decide_true])
      | (refine execG_split (fun h => ?_) (fun h => ?_) <;> simp only [h])
      | (refine execC_split (fun h => ?_) (fun h => ?_) <;> (try simp only [h]))
      | (refine onPick_split (fun h => ?_) (fun h => ?_) <;> (try simp only [h])))
  all_goals simp_all
  all_goals omega
theorem tmod_cast (a b : Nat) : ((a : Int).tmod (b : Int)) = ((a % b : Nat) : Int) := rfl
theorem abs_fn (a : Nat) : Fn prog 137 [.int .i64 a] (fun rs => rs = [.int .i64 a]) := by
  have hd : decide ((a : Int) < 0) = false := decide_eq_false (by omega)
  refine Fn_of' (fn := f137) (by exact func137) c137 r137 (n := 8) (by rfl) (rv := [.tmp 2]) (by rfl) (by simp) ?_
  unfold m137
  simp only [hd, ↓wA, ↓wC, wB, frzBE, frzBS, Nat.reduceEqDiff, Nat.reduceAdd, Nat.reduceSub, reduceIte, reduceCtorEq, Nat.reduceBEq, Nat.reduceLT, decide_true]
theorem gcd_fn (a b : Nat) : Fn prog 127 [.int .i64 a, .int .i64 b] (fun rs => rs = [.int .i64 (Nat.gcd a b)]) := by
  refine Fn_of' (fn := f127) (by exact func127) c127 r127 (n := 16) (by rfl) (rv := [.tmp 4]) (by rfl) (by simp) ?_
  unfold m127
  try simp only [↓wA, ↓wC, wB, frzBE, frzBS, Nat.reduceEqDiff, Nat.reduceAdd, Nat.reduceSub, reduceIte, reduceCtorEq, Nat.reduceBEq, Nat.reduceLT, decide_true]
  refine call_det (abs_fn a) rfl rfl ?_
  try simp only [↓wA, ↓wC, wB, frzBE, frzBS, Nat.reduceEqDiff, Nat.reduceAdd, Nat.reduceSub, reduceIte, reduceCtorEq, Nat.reduceBEq, Nat.reduceLT, decide_true]
  refine call_det (abs_fn b) rfl rfl ?_
  try simp only [↓wA, ↓wC, wB, frzBE, frzBS, Nat.reduceEqDiff, Nat.reduceAdd, Nat.reduceSub, reduceIte, reduceCtorEq, Nat.reduceBEq, Nat.reduceLT, decide_true]
  refine exec_loop (fun p : Nat × Nat => ⟨[(0, .d (.int .i64 p.1)), (1, .d (.int .i64 p.2))], []⟩) (fun p => Nat.gcd p.1 p.2 = Nat.gcd a b) (fun p => p.2) (a, b) (weak_of [] rfl ⟨⟨rfl, rfl⟩, ⟨rfl, rfl⟩, trivial⟩) rfl ?_
  rintro ⟨p, q⟩ hg
  simp only at hg
  by_cases hq : q = 0
  · subst hq
    have hd : decide (((0 : Nat) : Int) = 0) = true := decide_eq_true rfl
    try simp only [hd, ↓wA, ↓wC, wB, frzBE, frzBS, Nat.reduceEqDiff, Nat.reduceAdd, Nat.reduceSub, reduceIte, reduceCtorEq, Nat.reduceBEq, Nat.reduceLT, decide_true]
    rw [← hg, Nat.gcd_zero_right]
  · have hd : decide ((q : Int) = 0) = false := decide_eq_false (by omega)
    try simp only [hd, ↓wA, ↓wC, wB, frzBE, frzBS, Nat.reduceEqDiff, Nat.reduceAdd, Nat.reduceSub, reduceIte, reduceCtorEq, Nat.reduceBEq, Nat.reduceLT, decide_true]
    refine onC_i (by omega) ?_
    try simp only [tmod_cast, ↓wA, ↓wC, wB, frzBE, frzBS, Nat.reduceEqDiff, Nat.reduceAdd, Nat.reduceSub, reduceIte, reduceCtorEq, Nat.reduceBEq, Nat.reduceLT, decide_true]
    exact ⟨(q, p % q), weak_of [] rfl ⟨⟨rfl, rfl⟩, ⟨rfl, rfl⟩, trivial⟩, by rw [← hg, Nat.gcd_comm p q, Nat.gcd_rec q p, Nat.gcd_comm], Nat.mod_lt _ (by omega)⟩
def lowest (a b : Nat) : List D := [.int .i64 ((a : Int).tdiv (Nat.gcd a b : Nat)), .int .i64 ((b : Int).tdiv (Nat.gcd a b : Nat))]
theorem tdiv_inR (a g : Nat) (h : a ≤ 1000000) : InR .i64 ((a : Int).tdiv (g : Int)) := by
  have h1 : 0 ≤ (a : Int).tdiv (g : Int) := Int.tdiv_nonneg (by omega) (by omega)
  have h2 : (a : Int).tdiv (g : Int) ≤ a := Int.tdiv_le_self _ (by omega)
  exact ⟨by omega, by omega⟩
theorem reduced_fn (a b : Nat) (ha : a ≤ 1000000) (hb : b ≤ 1000000) (h0 : 0 < b) : Fn prog 82 [.int .i64 a, .int .i64 b] (fun rs => rs = lowest a b) := by
  have hg : ((Nat.gcd a b : Nat) : Int) ≠ 0 := by have := Nat.gcd_pos_of_pos_right a h0; omega
  refine Fn_of' (fn := f82) (by exact func82) c82 r82 (n := 16) (by rfl) (rv := [.tmp 4, .tmp 5]) (by rfl) (by simp) ?_
  unfold m82
  try simp only [↓wA, ↓wC, wB, frzBE, frzBS, Nat.reduceEqDiff, Nat.reduceAdd, Nat.reduceSub, reduceIte, reduceCtorEq, Nat.reduceBEq, Nat.reduceLT, decide_true]
  refine call_det (gcd_fn a b) rfl rfl ?_
  try simp only [↓wA, ↓wC, wB, frzBE, frzBS, Nat.reduceEqDiff, Nat.reduceAdd, Nat.reduceSub, reduceIte, reduceCtorEq, Nat.reduceBEq, Nat.reduceLT, decide_true]
  refine onC_i hg ?_
  try simp only [↓wA, ↓wC, wB, frzBE, frzBS, Nat.reduceEqDiff, Nat.reduceAdd, Nat.reduceSub, reduceIte, reduceCtorEq, Nat.reduceBEq, Nat.reduceLT, decide_true]
  refine onI_bare (tdiv_inR a _ ha) ?_
  try simp only [↓wA, ↓wC, wB, frzBE, frzBS, Nat.reduceEqDiff, Nat.reduceAdd, Nat.reduceSub, reduceIte, reduceCtorEq, Nat.reduceBEq, Nat.reduceLT, decide_true]
  refine onC_i hg ?_
  try simp only [↓wA, ↓wC, wB, frzBE, frzBS, Nat.reduceEqDiff, Nat.reduceAdd, Nat.reduceSub, reduceIte, reduceCtorEq, Nat.reduceBEq, Nat.reduceLT, decide_true]
  refine onI_bare (tdiv_inR b _ hb) ?_
  try simp only [↓wA, ↓wC, wB, frzBE, frzBS, Nat.reduceEqDiff, Nat.reduceAdd, Nat.reduceSub, reduceIte, reduceCtorEq, Nat.reduceBEq, Nat.reduceLT, decide_true]
  rfl
theorem l2Reduce_fn (a b : Nat) (ha : a ≤ 1000000) (hb : b ≤ 1000000) (h0 : 0 < b) : Fn prog 83 [.int .i64 a, .int .i64 b] (fun rs => rs = lowest a b) := by
  have hg : ((Nat.gcd a b : Nat) : Int) ≠ 0 := by have := Nat.gcd_pos_of_pos_right a h0; omega
  have hm : (if -(a : Int) < (a : Int) then (a : Int) else -(a : Int)) = a := by split <;> omega
  refine Fn_of' (fn := f83) (by exact func83) c83 r83 (n := 27) (by rfl) (rv := [.tmp 4, .tmp 5]) (by rfl) (by simp) ?_
  unfold m83
  try simp only [↓wA, ↓wC, wB, frzBE, frzBS, Nat.reduceEqDiff, Nat.reduceAdd, Nat.reduceSub, reduceIte, reduceCtorEq, Nat.reduceBEq, Nat.reduceLT, decide_true]
  refine onI_bare (by simp only [InR]; omega) ?_
  try simp only [↓wA, ↓wC, wB, frzBE, frzBS, Nat.reduceEqDiff, Nat.reduceAdd, Nat.reduceSub, reduceIte, reduceCtorEq, Nat.reduceBEq, Nat.reduceLT, decide_true]
  refine call_det (l1Most_fn _ _) rfl rfl ?_
  try simp only [hm, ↓wA, ↓wC, wB, frzBE, frzBS, Nat.reduceEqDiff, Nat.reduceAdd, Nat.reduceSub, reduceIte, reduceCtorEq, Nat.reduceBEq, Nat.reduceLT, decide_true]
  refine exec_loop (fun p : Nat × Nat => ⟨[(0, .d (.int .i64 a)), (1, .d (.int .i64 b)), (6, .d (.int .i64 p.1)), (7, .d (.int .i64 p.2))], []⟩) (fun p => Nat.gcd p.1 p.2 = Nat.gcd a b) (fun p => p.2) (a, b) (weak_of [] rfl ⟨⟨rfl, rfl⟩, ⟨rfl, rfl⟩, ⟨rfl, rfl⟩, ⟨rfl, rfl⟩, trivial⟩) rfl ?_
  rintro ⟨p, q⟩ hgp
  simp only at hgp
  by_cases hq : q = 0
  · subst hq
    have hd : decide (((0 : Nat) : Int) = 0) = true := decide_eq_true rfl
    have hp : p = Nat.gcd a b := by rw [← hgp, Nat.gcd_zero_right]
    subst hp
    try simp only [hd, ↓wA, ↓wC, wB, frzBE, frzBS, Nat.reduceEqDiff, Nat.reduceAdd, Nat.reduceSub, reduceIte, reduceCtorEq, Nat.reduceBEq, Nat.reduceLT, decide_true]
    refine onC_i hg ?_
    try simp only [↓wA, ↓wC, wB, frzBE, frzBS, Nat.reduceEqDiff, Nat.reduceAdd, Nat.reduceSub, reduceIte, reduceCtorEq, Nat.reduceBEq, Nat.reduceLT, decide_true]
    refine onI_bare (tdiv_inR a _ ha) ?_
    try simp only [↓wA, ↓wC, wB, frzBE, frzBS, Nat.reduceEqDiff, Nat.reduceAdd, Nat.reduceSub, reduceIte, reduceCtorEq, Nat.reduceBEq, Nat.reduceLT, decide_true]
    refine onC_i hg ?_
    try simp only [↓wA, ↓wC, wB, frzBE, frzBS, Nat.reduceEqDiff, Nat.reduceAdd, Nat.reduceSub, reduceIte, reduceCtorEq, Nat.reduceBEq, Nat.reduceLT, decide_true]
    refine onI_bare (tdiv_inR b _ hb) ?_
    try simp only [↓wA, ↓wC, wB, frzBE, frzBS, Nat.reduceEqDiff, Nat.reduceAdd, Nat.reduceSub, reduceIte, reduceCtorEq, Nat.reduceBEq, Nat.reduceLT, decide_true]
    rfl
  · have hd : decide ((q : Int) = 0) = false := decide_eq_false (by omega)
    try simp only [hd, ↓wA, ↓wC, wB, frzBE, frzBS, Nat.reduceEqDiff, Nat.reduceAdd, Nat.reduceSub, reduceIte, reduceCtorEq, Nat.reduceBEq, Nat.reduceLT, decide_true]
    refine onC_i (by omega) ?_
    try simp only [tmod_cast, ↓wA, ↓wC, wB, frzBE, frzBS, Nat.reduceEqDiff, Nat.reduceAdd, Nat.reduceSub, reduceIte, reduceCtorEq, Nat.reduceBEq, Nat.reduceLT, decide_true]
    exact ⟨(q, p % q), weak_of [] rfl ⟨⟨rfl, rfl⟩, ⟨rfl, rfl⟩, ⟨rfl, rfl⟩, ⟨rfl, rfl⟩, trivial⟩, by rw [← hgp, Nat.gcd_comm p q, Nat.gcd_rec q p, Nat.gcd_comm], Nat.mod_lt _ (by omega)⟩
end Go.Pe.Try
