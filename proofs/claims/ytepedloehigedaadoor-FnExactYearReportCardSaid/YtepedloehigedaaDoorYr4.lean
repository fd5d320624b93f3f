/- Sizes, equality with itself, what is gone. -/
import Derived.Test.YtepedloehigedaaDoorYr3
import Derived.Test.YtepedloehigedaaDoorPeC
set_option maxRecDepth 100000
set_option maxHeartbeats 4000000
set_option linter.all false
namespace Go.Pe.Tryd
open Go.Proofs.Tryd
theorem szYearRowS_fn (xs : List Row) (n : Int) (h0 : 0 ≤ n) (h1 : n ≤ 1048576) (hlen : xs.length ≤ maxLen) : Fn prog 10 [.sl false 5 (rowsD xs), .int .i64 n] (fun rs => rs = [.int .i64 (if n - xs.length < 0 then -1 else n - xs.length)]) := by
  have hm : maxLen = 9223372036854775807 := by rfl
  refine Fn_of' (fn := f10) (by exact func10) c10 r10 (n := 12) (by rfl) (rv := [.tmp 4]) (by rfl) (by simp) ?_
  unfold m10
  simp only [dl_len, ↓wA, ↓wC, wB, Nat.reduceEqDiff, Nat.reduceAdd, Nat.reduceSub, reduceIte, reduceCtorEq, Nat.reduceBEq, Nat.reduceLT, decide_true]
  refine onI_bare (by simp only [InR]; omega) ?_
  simp only [↓wA, ↓wC, wB, Nat.reduceEqDiff, Nat.reduceAdd, Nat.reduceSub, reduceIte, reduceCtorEq, Nat.reduceBEq, Nat.reduceLT, decide_true]
  refine execC_split (fun h => ?_) (fun h => ?_) <;> simp only [↓wA, ↓wC, wB, Nat.reduceEqDiff, Nat.reduceAdd, Nat.reduceSub, reduceIte, reduceCtorEq, Nat.reduceBEq, Nat.reduceLT, decide_true]
  · rw [if_pos (by simpa using h)]
  · rw [if_neg (by simpa using h)]
theorem eqYearRow_refl (r : Row) : Fn prog 34 [r.d, r.d] (fun rs => rs = [.bool true]) := by
  refine Fn_of' (fn := f34) (by exact func34) c34 r34 (n := 30) (by rfl) (rv := [.tmp 4]) (by rfl) (by simp) ?_
  unfold m34
  simp only [Row.d]
  simp only [↓wA, ↓wC, wB, Nat.reduceEqDiff, Nat.reduceAdd, Nat.reduceSub, reduceIte, reduceCtorEq, Nat.reduceBEq, Nat.reduceLT, decide_true]
theorem eqYearRowS_refl (xs : List Row) (hlen : xs.length ≤ 1048576) : Fn prog 14 [.sl false 5 (rowsD xs), .sl false 5 (rowsD xs)] (fun rs => rs = [.bool true]) := by
  refine Fn_of' (fn := f14) (by exact func14) c14 r14 (n := 27) (by rfl) (rv := [.tmp 4]) (by rfl) (by simp) ?_
  unfold m14
  simp only [↓wA, ↓wC, wB, Nat.reduceEqDiff, Nat.reduceAdd, Nat.reduceSub, reduceIte, reduceCtorEq, Nat.reduceBEq, Nat.reduceLT, decide_true]
  refine exec_loop (fun i : Nat => ⟨[(0, .d (.sl false 5 (rowsD xs))), (1, .d (.sl false 5 (rowsD xs))), (5, .d (.int .i64 i))], []⟩)
    (fun i => i ≤ xs.length) (fun i => xs.length - i) 0 (weak_of [] rfl ⟨⟨rfl, rfl⟩, ⟨rfl, rfl⟩, ⟨rfl, rfl⟩, trivial⟩) (Nat.zero_le _) ?_
  intro i hi
  by_cases hlt : i < xs.length
  · obtain ⟨r, hr⟩ := get_lt hlt
    have hd : decide ((i : Int) < (xs.length : Int)) = true := by simp; omega
    have h0 : (0 : Int) ≤ (i : Int) := by omega
    repeat' (first
        | (simp only [dl_len, dl_nth, hd, Int.toNat_natCast, hr, Option.map_some, ↓rd_row, h0, onC_true, ↓wA, ↓wC, wB, Nat.reduceEqDiff, Nat.reduceAdd, Nat.reduceSub, reduceIte, reduceCtorEq, Nat.reduceBEq, Nat.reduceLT, decide_true])
        | (refine call_det (eqYearRow_refl r) rfl rfl ?_)
        | (refine callP_det (eqYearRow_refl r) rfl rfl ?_)
        | (refine execG_split (fun h => ?_) (fun h => ?_) <;> simp only [h])
        | (refine execC_split (fun h => ?_) (fun h => ?_) <;> (try simp only [h]))
        | (refine onPick_split (fun h => ?_) (fun h => ?_) <;> (try simp only [h])))
    refine onI_bare (by simp only [InR]; omega) ?_
    exact ⟨i + 1, weak_of [] rfl ⟨⟨rfl, rfl⟩, ⟨rfl, rfl⟩, ⟨rfl, rfl⟩, trivial⟩, by omega, by omega⟩
  · have hd : decide ((i : Int) < (xs.length : Int)) = false := by simp; omega
    simp only [dl_len, hd, ↓wA, ↓wC, wB, Nat.reduceEqDiff, Nat.reduceAdd, Nat.reduceSub, reduceIte, reduceCtorEq, Nat.reduceBEq, Nat.reduceLT, decide_true]
def Row.gone (r : Row) : Int := r.k + r.x + r.g
theorem ok_bounds {r : Row} (h : r.ok = true) : 1900 ≤ r.y ∧ r.y ≤ 2200 ∧ 0 ≤ r.m ∧ r.m ≤ 9999 ∧ 0 ≤ r.k ∧ r.k ≤ 9999 ∧ 0 ≤ r.x ∧ r.x ≤ 9999 ∧ 0 ≤ r.g ∧ r.g ≤ 9999 := by
  simp only [Row.ok, isCount, within, Bool.and_eq_true, decide_eq_true_eq] at h
  omega
theorem l26Gone_fn (r : Row) (h : r.ok = true) : Fn prog 52 [r.d] (fun rs => rs = [.int .i64 r.gone]) := by
  have hb := ok_bounds h
  refine Fn_of' (fn := f52) (by exact func52) c52 r52 (n := 11) (by rfl) (rv := [.tmp 2]) (by rfl) (by simp) ?_
  unfold m52
  simp only [Row.d]
  repeat' (first
      | (simp only [↓wA, ↓wC, wB, Nat.reduceEqDiff, Nat.reduceAdd, Nat.reduceSub, reduceIte, reduceCtorEq, Nat.reduceBEq, Nat.reduceLT, decide_true])
      | (refine onI_bare (by simp only [InR]; omega) ?_)
      | (refine execG_split (fun h => ?_) (fun h => ?_) <;> simp only [h])
      | (refine execC_split (fun h => ?_) (fun h => ?_) <;> (try simp only [h]))
      | (refine onPick_split (fun h => ?_) (fun h => ?_) <;> (try simp only [h])))
  rfl
theorem gone_fn (r : Row) (h : r.ok = true) : Fn prog 41 [r.d] (fun rs => rs = [.int .i64 r.gone]) := by
  have hb := ok_bounds h
  refine Fn_of' (fn := f41) (by exact func41) c41 r41 (n := 11) (by rfl) (rv := [.tmp 2]) (by rfl) (by simp) ?_
  unfold m41
  simp only [Row.d]
  repeat' (first
      | (simp only [↓wA, ↓wC, wB, Nat.reduceEqDiff, Nat.reduceAdd, Nat.reduceSub, reduceIte, reduceCtorEq, Nat.reduceBEq, Nat.reduceLT, decide_true])
      | (refine onI_bare (by simp only [InR]; omega) ?_)
      | (refine execG_split (fun h => ?_) (fun h => ?_) <;> simp only [h])
      | (refine execC_split (fun h => ?_) (fun h => ?_) <;> (try simp only [h]))
      | (refine onPick_split (fun h => ?_) (fun h => ?_) <;> (try simp only [h])))
  rfl
theorem fa_row0 {r : Row} {K : SV → Prop} : stepFa 0 0 (.d (.ptr r.d)) K = K (.d (.ptr (.int .i64 r.y))) := by simp [Row.d, stepFa, D.pre, D.nth]
theorem fa_row1 {r : Row} {K : SV → Prop} : stepFa 1 1 (.d (.ptr r.d)) K = K (.d (.ptr (.int .i64 r.m))) := by simp [Row.d, stepFa, D.pre, D.nth, D.size]
theorem fa_row3 {r : Row} {K : SV → Prop} : stepFa 3 3 (.d (.ptr r.d)) K = K (.d (.ptr (.int .i64 r.x))) := by simp [Row.d, stepFa, D.pre, D.nth, D.size]
end Go.Pe.Tryd
