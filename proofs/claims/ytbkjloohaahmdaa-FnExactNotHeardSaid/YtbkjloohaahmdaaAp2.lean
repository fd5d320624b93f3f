/- Lists of appeals among the laws' helpers: sizes and copies; walked. -/
import Derived.Test.YtbkjloohaahmdaaAp1
set_option maxRecDepth 100000
set_option maxHeartbeats 4000000
set_option linter.all false
namespace Go.Pe.Try
open Go.Proofs.Try
def szFrom : List App → Int → Int
  | [], n => n
  | x :: xs, n => if szA x n < 0 then -1 else szFrom xs (szA x n)
def szL (xs : List App) (n : Int) : Int := if n - xs.length < 0 then -1 else szFrom xs (n - xs.length)
theorem szFrom_le : ∀ (xs : List App) (n : Int), 0 ≤ n → szFrom xs n ≤ n
  | [], n, _ => Int.le_refl _
  | x :: xs, n, h => by
    unfold szFrom
    split
    · omega
    · rename_i h1
      have := szFrom_le xs (szA x n) (by omega)
      have h2 : szA x n ≤ n := by unfold szA; split <;> (try split) <;> omega
      omega
theorem szFrom_ok : ∀ (xs : List App) (n : Int), n ≤ 1048576 → 0 ≤ szFrom xs n → ∀ x ∈ xs, x.ok0
  | [], n, _, _ => by simp
  | x :: xs, n, h, h0 => by
    unfold szFrom at h0
    by_cases h1 : szA x n < 0
    · rw [if_pos h1] at h0; omega
    · rw [if_neg h1] at h0
      have hx : x.ok0 := by
        unfold szA at h1
        unfold App.ok0
        split at h1
        · omega
        · split at h1 <;> omega
      have h2 := szFrom_ok xs (szA x n) (szA_bd x n h).2 h0
      intro y hy
      rcases List.mem_cons.1 hy with rfl | hy
      · exact hx
      · exact h2 y hy
theorem szL_ok {xs : List App} (h : 0 ≤ szL xs 1048576) : xs.length ≤ 1048576 ∧ ∀ x ∈ xs, x.ok0 := by
  unfold szL at h
  split at h
  · omega
  · exact ⟨by omega, szFrom_ok xs _ (by omega) h⟩
theorem adrop_get {α : Type} {xs : List α} {i : Nat} {a : α} (h : xs[i]? = some a) : xs.drop i = a :: xs.drop (i + 1) := by
  have hi := lt_of_get h
  rw [List.drop_eq_getElem_cons hi]
  rw [List.getElem?_eq_getElem hi] at h
  injection h with h
  rw [h]
theorem szAppealS_fn (xs : List App) (n : Int) (h0 : 0 ≤ n) (h1 : n ≤ 1048576) (hlen : xs.length ≤ maxLen) (hx : ∀ x ∈ xs, x.a.length ≤ maxLen ∧ x.h.length ≤ maxLen) : Fn prog 7 [.sl false 6 (appsD xs), .int .i64 n] (fun rs => rs = [.int .i64 (szL xs n)]) := by
  have hm : maxLen = 9223372036854775807 := by rfl
  refine Fn_of' (fn := f7) (by exact func7) c7 r7 (n := 27) (by rfl) (rv := [.tmp 4]) (by rfl) (by simp) ?_
  unfold m7
  simp only [dl_len, ↓wA, ↓wC, wB, frzBE, frzBS, Nat.reduceEqDiff, Nat.reduceAdd, Nat.reduceSub, reduceIte, reduceCtorEq, Nat.reduceBEq, Nat.reduceLT, decide_true]
  refine onI_bare (by simp only [InR]; omega) ?_
  simp only [↓wA, ↓wC, wB, frzBE, frzBS, Nat.reduceEqDiff, Nat.reduceAdd, Nat.reduceSub, reduceIte, reduceCtorEq, Nat.reduceBEq, Nat.reduceLT, decide_true]
  by_cases h2 : n - xs.length < 0
  · have e1 : decide (n - (xs.length : Int) < 0) = true := decide_eq_true h2
    simp only [e1, ↓wA, ↓wC, wB, frzBE, frzBS, Nat.reduceEqDiff, Nat.reduceAdd, Nat.reduceSub, reduceIte, reduceCtorEq, Nat.reduceBEq, Nat.reduceLT, decide_true]
    rw [szL, if_pos h2]
  · have e1 : decide (n - (xs.length : Int) < 0) = false := decide_eq_false h2
    simp only [e1, ↓wA, ↓wC, wB, frzBE, frzBS, Nat.reduceEqDiff, Nat.reduceAdd, Nat.reduceSub, reduceIte, reduceCtorEq, Nat.reduceBEq, Nat.reduceLT, decide_true]
    refine exec_loop (fun p : Nat × Int => ⟨[(0, .d (.sl false 6 (appsD xs))), (1, .d (.int .i64 p.2)), (5, .d (.int .i64 p.1))], []⟩)
      (fun p => p.1 ≤ xs.length ∧ 0 ≤ p.2 ∧ p.2 ≤ 1048576 ∧ szL xs n = szFrom (xs.drop p.1) p.2) (fun p => xs.length - p.1) (0, n - xs.length) (weak_of [] rfl ⟨⟨rfl, rfl⟩, ⟨rfl, rfl⟩, ⟨rfl, rfl⟩, trivial⟩) ⟨Nat.zero_le _, by simp only; omega, by simp only; omega, by simp [szL, h2]⟩ ?_
    rintro ⟨i, m⟩ ⟨hi, hm0, hm1, hsz⟩
    simp only at hi hm0 hm1 hsz
    by_cases hlt : i < xs.length
    · obtain ⟨r, hr⟩ := get_lt hlt
      have hd : decide ((i : Int) < (xs.length : Int)) = true := by simp; omega
      have hi0 : (0 : Int) ≤ (i : Int) := by omega
      have hxr := hx r (List.mem_of_getElem? hr)
      have he := szAppeal_fn r m hm0 hm1 hxr.1 hxr.2
      have hb := szA_bd r m hm1
      rw [adrop_get hr, szFrom] at hsz
      by_cases h3 : szA r m < 0
      · have e3 : decide (szA r m < 0) = true := decide_eq_true h3
        rw [if_pos h3] at hsz
        repeat' (first
            | (simp only [dl_len, dl_nth, hd, Int.toNat_natCast, hr, Option.map_some, ↓rd_app, hi0, onC_true, e3, ↓wA, ↓wC, wB, frzBE, frzBS, Nat.reduceEqDiff, Nat.reduceAdd, Nat.reduceSub, reduceIte, reduceCtorEq, Nat.reduceBEq, Nat.reduceLT, decide_true])
            | (refine call_det he (by simp [argsD, argD, valOf, App.unown]) rfl ?_)
            | (refine execG_split (fun h => ?_) (fun h => ?_) <;> simp only [h])
            | (refine execC_split (fun h => ?_) (fun h => ?_) <;> (try simp only [h]))
            | (refine onPick_split (fun h => ?_) (fun h => ?_) <;> (try simp only [h])))
        all_goals rw [hsz]
      · have e3 : decide (szA r m < 0) = false := decide_eq_false h3
        rw [if_neg h3] at hsz
        repeat' (first
            | (simp only [dl_len, dl_nth, hd, Int.toNat_natCast, hr, Option.map_some, ↓rd_app, hi0, onC_true, e3, ↓wA, ↓wC, wB, frzBE, frzBS, Nat.reduceEqDiff, Nat.reduceAdd, Nat.reduceSub, reduceIte, reduceCtorEq, Nat.reduceBEq, Nat.reduceLT, decide_true])
            | (refine call_det he (by simp [argsD, argD, valOf, App.unown]) rfl ?_)
            | (refine onI_bare (by simp only [InR]; omega) ?_)
            | (refine execG_split (fun h => ?_) (fun h => ?_) <;> simp only [h])
            | (refine execC_split (fun h => ?_) (fun h => ?_) <;> (try simp only [h]))
            | (refine onPick_split (fun h => ?_) (fun h => ?_) <;> (try simp only [h])))
        all_goals exact ⟨(i + 1, szA r m), weak_of [] rfl ⟨⟨rfl, rfl⟩, ⟨rfl, rfl⟩, ⟨rfl, rfl⟩, trivial⟩, ⟨by simp only; omega, by simp only; omega, by simp only; omega, hsz⟩, by simp only; omega⟩
    · have hd : decide ((i : Int) < (xs.length : Int)) = false := by simp; omega
      have e : i = xs.length := by omega
      simp only [dl_len, hd, ↓wA, ↓wC, wB, frzBE, frzBS, Nat.reduceEqDiff, Nat.reduceAdd, Nat.reduceSub, reduceIte, reduceCtorEq, Nat.reduceBEq, Nat.reduceLT, decide_true]
      rw [hsz, e, List.drop_length, szFrom]
end Go.Pe.Try
