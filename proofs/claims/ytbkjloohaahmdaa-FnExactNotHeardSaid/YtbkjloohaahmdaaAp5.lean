/- Rising lists, walked. -/
import Derived.Test.YtbkjloohaahmdaaAp4
set_option maxRecDepth 100000
set_option maxHeartbeats 4000000
set_option linter.all false
namespace Go.Pe.Try
open Go.Proofs.Try
/-- a list rises. -/
def rises (v : List Int) : Bool := (List.range (v.length - 1)).all fun j => decide (v.getD j 0 < v.getD (j + 1) 0)
theorem rises_iff (v : List Int) : rises v = true ↔ ∀ j, j + 1 < v.length → v.getD j 0 < v.getD (j + 1) 0 := by
  simp only [rises, List.all_eq_true, List.mem_range, decide_eq_true_eq]
  exact ⟨fun h j hj => h j (by omega), fun h j hj => h j (by omega)⟩
theorem areRising_fn (v : List Int) (hlen : v.length ≤ 1048576) : Fn prog 112 [.sl false 1 (dl iD v)] (fun rs => rs = [.bool (rises v)]) := by
  refine Fn_of' (fn := f112) (by exact func112) c112 r112 (n := 20) (by rfl) (rv := [.tmp 2]) (by rfl) (by simp) ?_
  unfold m112
  simp only [↓wA, ↓wC, wB, frzBE, frzBS, Nat.reduceEqDiff, Nat.reduceAdd, Nat.reduceSub, reduceIte, reduceCtorEq, Nat.reduceBEq, Nat.reduceLT, decide_true]
  refine exec_loop (fun i : Nat => ⟨[(0, .d (.sl false 1 (dl iD v))), (3, .d (.int .i64 (i + 1 : Nat)))], []⟩)
    (fun i => i ≤ v.length ∧ ∀ j, j + 1 < i + 1 → j + 1 < v.length → v.getD j 0 < v.getD (j + 1) 0) (fun i => v.length - i) 0 (weak_of [] rfl ⟨⟨rfl, rfl⟩, ⟨rfl, rfl⟩, trivial⟩) ⟨Nat.zero_le _, fun j h => by omega⟩ ?_
  rintro i ⟨hi, hp⟩
  by_cases hlt : i + 1 < v.length
  · obtain ⟨a, ha⟩ := get_lt (show i < v.length by omega)
    obtain ⟨b, hb⟩ := get_lt hlt
    have hd : decide (((i + 1 : Nat) : Int) < (v.length : Int)) = true := decide_eq_true (by omega)
    have h0 : (0 : Int) ≤ ((i + 1 : Nat) : Int) := by omega
    have h1 : (0 : Int) ≤ ((i + 1 : Nat) : Int) - 1 := by omega
    have ha' : v[(((i + 1 : Nat) : Int) - 1).toNat]? = some a := by rw [show (((i + 1 : Nat) : Int) - 1).toNat = i by omega]; exact ha
    have ga : v.getD i 0 = a := by simp [List.getD, ha]
    have gb : v.getD (i + 1) 0 = b := by simp [List.getD, hb]
    repeat' (first
        | (simp only [dl_len, dl_nth, hd, h0, h1, ha', hb, Int.toNat_natCast, Option.map_some, onC_true, iD, ↓wA, ↓wC, wB, frzBE, frzBS, Nat.reduceEqDiff, Nat.reduceAdd, Nat.reduceSub, reduceIte, reduceCtorEq, Nat.reduceBEq, Nat.reduceLT, decide_true])
        | (refine onI_bare (by simp only [InR]; omega) ?_)
        | (refine execG_split (fun h => ?_) (fun h => ?_) <;> simp only [h])
        | (refine execC_split (fun h => ?_) (fun h => ?_) <;> (try simp only [h]))
        | (refine onPick_split (fun h => ?_) (fun h => ?_) <;> (try simp only [h])))
    · have hr : rises v = false := by
        cases hr : rises v with
        | false => rfl
        | true =>
          have := (rises_iff v).1 hr i hlt
          rw [ga, gb] at this
          simp at h; omega
      rw [hr]
    · refine ⟨i + 1, weak_of [] rfl ⟨⟨rfl, rfl⟩, ⟨rfl, rfl⟩, trivial⟩, ⟨by omega, fun j hj hj2 => ?_⟩, by omega⟩
      by_cases e : j = i
      · subst e
        rw [ga, gb]
        simp at h; omega
      · exact hp j (by omega) hj2
  · have hd : decide (((i + 1 : Nat) : Int) < (v.length : Int)) = false := decide_eq_false (by omega)
    have hr : rises v = true := (rises_iff v).2 fun j hj => hp j (by omega) hj
    simp only [dl_len, hd, ↓wA, ↓wC, wB, frzBE, frzBS, Nat.reduceEqDiff, Nat.reduceAdd, Nat.reduceSub, reduceIte, reduceCtorEq, Nat.reduceBEq, Nat.reduceLT, decide_true]
    rw [hr]
end Go.Pe.Try
