/- Small tests of appeals, walked. -/
import Derived.Test.YtbkjloohaahmdaaAp3
set_option maxRecDepth 100000
set_option maxHeartbeats 4000000
set_option linter.all false
namespace Go.Pe.Try
open Go.Proofs.Try
def within (n a b : Int) : Bool := decide (a ≤ n) && decide (n ≤ b)
theorem within_fn (n a b : Int) : Fn prog 111 [.int .i64 n, .int .i64 a, .int .i64 b] (fun rs => rs = [.bool (within n a b)]) := by
  refine Fn_of' (fn := f111) (by exact func111) c111 r111 (n := 15) (by rfl) (rv := [.tmp 6]) (by rfl) (by simp) ?_
  unfold m111
  simp only [↓wA, ↓wC, wB, frzBE, frzBS, Nat.reduceEqDiff, Nat.reduceAdd, Nat.reduceSub, reduceIte, reduceCtorEq, Nat.reduceBEq, Nat.reduceLT, decide_true]
  refine execG_split (fun h => ?_) (fun h => ?_) <;> simp only [h, ↓wA, ↓wC, wB, frzBE, frzBS, Nat.reduceEqDiff, Nat.reduceAdd, Nat.reduceSub, reduceIte, reduceCtorEq, Nat.reduceBEq, Nat.reduceLT, decide_true]
  all_goals simp [within, h]
theorem l1In_fn (n a b : Int) : Fn prog 131 [.int .i64 n, .int .i64 a, .int .i64 b] (fun rs => rs = [.bool (within n a b)]) := by
  refine Fn_of' (fn := f131) (by exact func131) c131 r131 (n := 15) (by rfl) (rv := [.tmp 6]) (by rfl) (by simp) ?_
  unfold m131
  simp only [↓wA, ↓wC, wB, frzBE, frzBS, Nat.reduceEqDiff, Nat.reduceAdd, Nat.reduceSub, reduceIte, reduceCtorEq, Nat.reduceBEq, Nat.reduceLT, decide_true]
  refine execG_split (fun h => ?_) (fun h => ?_) <;> simp only [h, ↓wA, ↓wC, wB, frzBE, frzBS, Nat.reduceEqDiff, Nat.reduceAdd, Nat.reduceSub, reduceIte, reduceCtorEq, Nat.reduceBEq, Nat.reduceLT, decide_true]
  all_goals simp [within, h]
theorem isDay_fn (n : Int) : Fn prog 94 [.int .i64 n] (fun rs => rs = [.bool (within n 0 20000)]) := by
  refine Fn_of' (fn := f94) (by exact func94) c94 r94 (n := 5) (by rfl) (rv := [.tmp 2]) (by rfl) (by simp) ?_
  unfold m94
  repeat' (first
      | (simp only [↓wA, ↓wC, wB, frzBE, frzBS, Nat.reduceEqDiff, Nat.reduceAdd, Nat.reduceSub, reduceIte, reduceCtorEq, Nat.reduceBEq, Nat.reduceLT, decide_true])
      | (refine call_det (within_fn _ _ _) rfl rfl ?_)
      | (refine callP_det (within_fn _ _ _) rfl rfl ?_)
      | (refine execG_split (fun h => ?_) (fun h => ?_) <;> simp only [h])
      | (refine execC_split (fun h => ?_) (fun h => ?_) <;> (try simp only [h]))
      | (refine onPick_split (fun h => ?_) (fun h => ?_) <;> (try simp only [h])))
theorem l2Day_fn (n : Int) : Fn prog 96 [.int .i64 n] (fun rs => rs = [.bool (within n 0 20000)]) := by
  refine Fn_of' (fn := f96) (by exact func96) c96 r96 (n := 5) (by rfl) (rv := [.tmp 2]) (by rfl) (by simp) ?_
  unfold m96
  repeat' (first
      | (simp only [↓wA, ↓wC, wB, frzBE, frzBS, Nat.reduceEqDiff, Nat.reduceAdd, Nat.reduceSub, reduceIte, reduceCtorEq, Nat.reduceBEq, Nat.reduceLT, decide_true])
      | (refine call_det (l1In_fn _ _ _) rfl rfl ?_)
      | (refine callP_det (l1In_fn _ _ _) rfl rfl ?_)
      | (refine execG_split (fun h => ?_) (fun h => ?_) <;> simp only [h])
      | (refine execC_split (fun h => ?_) (fun h => ?_) <;> (try simp only [h]))
      | (refine onPick_split (fun h => ?_) (fun h => ?_) <;> (try simp only [h])))
theorem isParty_fn (n : Int) : Fn prog 87 [.int .i64 n] (fun rs => rs = [.bool (within n 1 50)]) := by
  refine Fn_of' (fn := f87) (by exact func87) c87 r87 (n := 5) (by rfl) (rv := [.tmp 2]) (by rfl) (by simp) ?_
  unfold m87
  repeat' (first
      | (simp only [↓wA, ↓wC, wB, frzBE, frzBS, Nat.reduceEqDiff, Nat.reduceAdd, Nat.reduceSub, reduceIte, reduceCtorEq, Nat.reduceBEq, Nat.reduceLT, decide_true])
      | (refine call_det (within_fn _ _ _) rfl rfl ?_)
      | (refine callP_det (within_fn _ _ _) rfl rfl ?_)
      | (refine execG_split (fun h => ?_) (fun h => ?_) <;> simp only [h])
      | (refine execC_split (fun h => ?_) (fun h => ?_) <;> (try simp only [h]))
      | (refine onPick_split (fun h => ?_) (fun h => ?_) <;> (try simp only [h])))
/-- does a number stand in a list? -/
theorem l1Has_fn (v : List Int) (n : Int) (hlen : v.length ≤ 1048576) : Fn prog 64 [.sl false 1 (dl iD v), .int .i64 n] (fun rs => rs = [.bool (v.contains n)]) := by
  refine Fn_of' (fn := f64) (by exact func64) c64 r64 (n := 18) (by rfl) (rv := [.tmp 4]) (by rfl) (by simp) ?_
  unfold m64
  simp only [↓wA, ↓wC, wB, frzBE, frzBS, Nat.reduceEqDiff, Nat.reduceAdd, Nat.reduceSub, reduceIte, reduceCtorEq, Nat.reduceBEq, Nat.reduceLT, decide_true]
  refine exec_loop (fun i : Nat => ⟨[(0, .d (.sl false 1 (dl iD v))), (1, .d (.int .i64 n)), (5, .d (.int .i64 i))], []⟩)
    (fun i => i ≤ v.length ∧ n ∉ v.take i) (fun i => v.length - i) 0 (weak_of [] rfl ⟨⟨rfl, rfl⟩, ⟨rfl, rfl⟩, ⟨rfl, rfl⟩, trivial⟩) ⟨Nat.zero_le _, by simp⟩ ?_
  rintro i ⟨hi, hp⟩
  by_cases hlt : i < v.length
  · obtain ⟨r, hr⟩ := get_lt hlt
    have hd : decide ((i : Int) < (v.length : Int)) = true := decide_eq_true (by omega)
    have h0 : (0 : Int) ≤ (i : Int) := by omega
    by_cases hc : r = n
    · have hm : v.contains n = true := by rw [List.contains_iff_mem]; rw [← hc]; exact List.mem_of_getElem? hr
      have hdc : decide (r = n) = true := decide_eq_true hc
      simp only [dl_len, dl_nth, hd, h0, hr, Option.map_some, Int.toNat_natCast, onC_true, iD, hdc, hm, ↓wA, ↓wC, wB, frzBE, frzBS, Nat.reduceEqDiff, Nat.reduceAdd, Nat.reduceSub, reduceIte, reduceCtorEq, Nat.reduceBEq, Nat.reduceLT, decide_true]
    · have hdc : decide (r = n) = false := decide_eq_false hc
      simp only [dl_len, dl_nth, hd, h0, hr, Option.map_some, Int.toNat_natCast, onC_true, iD, hdc, ↓wA, ↓wC, wB, frzBE, frzBS, Nat.reduceEqDiff, Nat.reduceAdd, Nat.reduceSub, reduceIte, reduceCtorEq, Nat.reduceBEq, Nat.reduceLT, decide_true]
      refine onI_bare (by simp only [InR]; omega) ?_
      refine ⟨i + 1, weak_of [] rfl ⟨⟨rfl, rfl⟩, ⟨rfl, rfl⟩, ⟨rfl, rfl⟩, trivial⟩, ⟨by omega, ?_⟩, by omega⟩
      have hi := lt_of_get hr
      rw [List.take_succ_eq_append_getElem hi]
      have : v[i] = r := by rw [List.getElem?_eq_getElem hi] at hr; injection hr
      rw [this]
      simp only [List.mem_append, List.mem_singleton, not_or]
      exact ⟨hp, fun h => hc h.symm⟩
  · have hd : decide ((i : Int) < (v.length : Int)) = false := decide_eq_false (by omega)
    simp only [dl_len, hd, ↓wA, ↓wC, wB, frzBE, frzBS, Nat.reduceEqDiff, Nat.reduceAdd, Nat.reduceSub, reduceIte, reduceCtorEq, Nat.reduceBEq, Nat.reduceLT, decide_true]
    rw [List.take_of_length_le (by omega)] at hp
    have : v.contains n = false := by
      cases h : v.contains n with
      | false => rfl
      | true => exact absurd (List.contains_iff_mem.1 h) hp
    rw [this]
end Go.Pe.Try
