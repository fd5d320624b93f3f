/- Marks on lists of numbers, walked. -/
import Derived.Test.YtbkjloohaahmdaaPeD
import Derived.Test.YtbkjloohaahmdaaMc1
import Derived.Test.YtbkjloohaahmdaaMc2
set_option maxRecDepth 100000
set_option maxHeartbeats 4000000
set_option linter.all false
namespace Go.Pe.Try
open Go.Proofs.Try
def ups : Nat → Int → List Int
  | 0, _ => []
  | n + 1, k => k :: ups n (k + 1)
theorem ups_len : ∀ (n : Nat) (k : Int), (ups n k).length = n
  | 0, _ => rfl
  | n + 1, k => by simp [ups, ups_len n]
theorem ups_get : ∀ (n : Nat) (k : Int) (i : Nat), i < n → (ups n k)[i]? = some (k + i)
  | 0, _, i, h => by omega
  | n + 1, k, 0, _ => by simp [ups]
  | n + 1, k, i + 1, h => by
    simp only [ups, List.getElem?_cons_succ]
    rw [ups_get n (k + 1) i (by omega)]
    congr 1; omega
theorem ups_snoc : ∀ (n : Nat) (k : Int), ups (n + 1) k = ups n k ++ [k + n]
  | 0, k => by simp [ups]
  | n + 1, k => by
    have h := ups_snoc n (k + 1)
    rw [ups, h, ups, List.cons_append]
    congr 3; omega
theorem ups_set {v : List Int} {i : Nat} {k : Int} (h : i < v.length) : (ups i k ++ v.drop i).set i (k + i) = ups (i + 1) k ++ v.drop (i + 1) := by
  rw [List.set_append_right _ _ (by rw [ups_len]; omega), ups_len, Nat.sub_self, List.drop_eq_getElem_cons h, List.set_cons_zero, ups_snoc, List.append_assoc]
  rfl
theorem dget_int {n : Int} : dget [] (iD n) = some (iD n) := rfl
theorem doff_int {n : Int} : doff [] (iD n) = 0 := rfl
theorem dset_int {n m : Int} : dset [] (iD n) (.int .i64 m) = iD m := rfl
theorem size_int {n : Int} : (iD n).size = 1 := rfl
theorem markI_fn (v : List Int) (k : Int) (h0 : 0 ≤ k) (h1 : k ≤ 1000000000000000) (hlen : v.length ≤ 1048576) : FnM prog 14 false (.sl true 1 (dl iD v)) [.int .i64 k] (fun x' rs => x' = .sl true 1 (dl iD (ups v.length k)) ∧ rs = [.int .i64 (k + v.length)]) := by
  refine FnM_of' (fn := f14) (by exact func14) c14 r14 (n := 19) (by rfl) (rv := [.tmp 4]) (by rfl) (by decide) (by simp) ?_
  unfold m14
  try simp only [↓wA, ↓wC, wB, frzBE, frzBS, Nat.reduceEqDiff, Nat.reduceAdd, Nat.reduceSub, reduceIte, reduceCtorEq, Nat.reduceBEq, Nat.reduceLT, decide_true]
  refine exec_loop (fun i : Nat => ⟨[(0, .own 0), (1, .d (.int .i64 (k + i))), (5, .d (.int .i64 i))], [.val (.sl true 1 (dl iD (ups i k ++ v.drop i)))]⟩)
    (fun i => i ≤ v.length) (fun i => v.length - i) 0
    (weak_of [] rfl ⟨⟨rfl, rfl⟩, ⟨congrArg (fun n => SV.d (.int .i64 n)) (by simp), rfl⟩, ⟨rfl, rfl⟩, trivial⟩) (Nat.zero_le _) ?_
  intro i hi
  have hl : (ups i k ++ v.drop i).length = v.length := by rw [List.length_append, ups_len, List.length_drop]; omega
  by_cases hlt : i < v.length
  · obtain ⟨w, hw⟩ := get_lt (show i < (ups i k ++ v.drop i).length by omega)
    have hd : decide ((i : Int) < (v.length : Int)) = true := decide_eq_true (by omega)
    have h0 : (0 : Int) ≤ (i : Int) := by omega
    have hs : (dl iD (ups i k ++ v.drop i)).setN i (.int .i64 (k + i)) = dl iD (ups (i + 1) k ++ v.drop (i + 1)) := (dl_setN (f := iD) _ i (k + i)).trans (by rw [ups_set hlt])
    repeat' (first
        | (simp only [dl_len, hl, hd, dl_nth, Int.toNat_natCast, hw, Option.map_some, h0, onC_true, size_int, hs, ↓wA, ↓wC, wB, frzBE, frzBS, Nat.reduceEqDiff, Nat.reduceAdd, Nat.reduceSub, reduceIte, reduceCtorEq, Nat.reduceBEq, Nat.reduceLT, decide_true])
        | (refine onI_bare (by simp only [InR]; omega) ?_)
        | (refine execG_split (fun h => ?_) (fun h => ?_) <;> simp only [h])
        | (refine execC_split (fun h => ?_) (fun h => ?_) <;> (try simp only [h]))
        | (refine onPick_split (fun h => ?_) (fun h => ?_) <;> (try simp only [h])))
    refine ⟨i + 1, weak_of [] rfl ⟨⟨rfl, rfl⟩, ⟨?_, rfl⟩, ⟨rfl, rfl⟩, trivial⟩, by omega, by omega⟩
    exact congrArg (fun n => SV.d (.int .i64 n)) (by omega)
  · have hd : decide ((i : Int) < (v.length : Int)) = false := decide_eq_false (by omega)
    have e : i = v.length := by omega
    try simp only [dl_len, hl, hd, ↓wA, ↓wC, wB, frzBE, frzBS, Nat.reduceEqDiff, Nat.reduceAdd, Nat.reduceSub, reduceIte, reduceCtorEq, Nat.reduceBEq, Nat.reduceLT, decide_true]
    rw [e, List.drop_length, List.append_nil]
    exact ⟨rfl, rfl⟩
theorem heldI_fn (n : Nat) (k : Int) (h0 : 0 ≤ k) (h1 : k ≤ 1000000000000000) (hlen : n ≤ 1048576) : Fn prog 15 [.sl false 1 (dl iD (ups n k)), .int .i64 k] (fun rs => rs = [.int .i64 (k + n)]) := by
  refine Fn_of' (fn := f15) (by exact func15) c15 r15 (n := 21) (by rfl) (rv := [.tmp 4]) (by rfl) (by simp) ?_
  unfold m15
  try simp only [↓wA, ↓wC, wB, frzBE, frzBS, Nat.reduceEqDiff, Nat.reduceAdd, Nat.reduceSub, reduceIte, reduceCtorEq, Nat.reduceBEq, Nat.reduceLT, decide_true]
  refine exec_loop (fun i : Nat => ⟨[(0, .d (.sl false 1 (dl iD (ups n k)))), (1, .d (.int .i64 (k + i))), (5, .d (.int .i64 i))], []⟩)
    (fun i => i ≤ n) (fun i => n - i) 0
    (weak_of [] rfl ⟨⟨rfl, rfl⟩, ⟨congrArg (fun n => SV.d (.int .i64 n)) (by simp), rfl⟩, ⟨rfl, rfl⟩, trivial⟩) (Nat.zero_le _) ?_
  intro i hi
  have hl := ups_len n k
  by_cases hlt : i < n
  · have hw := ups_get n k i hlt
    have hd : decide ((i : Int) < (n : Int)) = true := decide_eq_true (by omega)
    have h0 : (0 : Int) ≤ (i : Int) := by omega
    repeat' (first
        | (simp only [dl_len, hl, hd, dl_nth, Int.toNat_natCast, hw, Option.map_some, h0, onC_true, iD, ↓wA, ↓wC, wB, frzBE, frzBS, Nat.reduceEqDiff, Nat.reduceAdd, Nat.reduceSub, reduceIte, reduceCtorEq, Nat.reduceBEq, Nat.reduceLT, decide_true])
        | (refine onI_bare (by simp only [InR]; omega) ?_)
        | (refine execG_split (fun h => ?_) (fun h => ?_) <;> simp only [h])
        | (refine execC_split (fun h => ?_) (fun h => ?_) <;> (try simp only [h]))
        | (refine onPick_split (fun h => ?_) (fun h => ?_) <;> (try simp only [h])))
    refine ⟨i + 1, weak_of [] rfl ⟨⟨rfl, rfl⟩, ⟨?_, rfl⟩, ⟨rfl, rfl⟩, trivial⟩, by omega, by omega⟩
    exact congrArg (fun n => SV.d (.int .i64 n)) (by omega)
  · have hd : decide ((i : Int) < (n : Int)) = false := decide_eq_false (by omega)
    have e : i = n := by omega
    try simp only [dl_len, hl, hd, ↓wA, ↓wC, wB, frzBE, frzBS, Nat.reduceEqDiff, Nat.reduceAdd, Nat.reduceSub, reduceIte, reduceCtorEq, Nat.reduceBEq, Nat.reduceLT, decide_true]
    rw [e]
end Go.Pe.Try
