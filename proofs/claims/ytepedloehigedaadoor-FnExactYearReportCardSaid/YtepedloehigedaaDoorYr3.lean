/- Copies of rows. -/
import Derived.Test.YtepedloehigedaaDoorYr2
import Derived.Test.YtepedloehigedaaDoorPeC
set_option maxRecDepth 100000
set_option maxHeartbeats 4000000
set_option linter.all false
namespace Go.Pe.Tryd
open Go.Proofs.Tryd
theorem Row.unown (r : Row) : r.d.unown = r.d := rfl
theorem Row.noOwn (r : Row) : r.d.noOwn = true := rfl
theorem Row.allOwn (r : Row) : r.d.allOwn = true := rfl
def zrow : Row := ⟨0, 0, 0, 0, 0⟩
abbrev rowsD (xs : List Row) : D := dl Row.d xs
theorem rd_row {o : List Ob} {K : SV → Prop} {r : Row} : stepRd o (some 5) r.d K = K (.d r.d) := by simp [Row.d, stepRd, D.size, D.noOwn]
theorem isV_row {r : Row} : r.d.isV = true := rfl
theorem size_row {r : Row} : r.d.size = 5 := rfl
theorem toYearRowS_fn (xs : List Row) (hlen : xs.length ≤ 1048576) : Fn prog 12 [.sl false 5 (rowsD xs)] (fun rs => rs = [.sl true 5 (rowsD xs)]) := by
  refine Fn_of' (fn := f12) (by exact func12) c12 r12 (n := 23) (by rfl) (rv := [.tmp 2]) (by rfl) (by simp) ?_
  unfold m12
  simp only [↓wA, ↓wC, wB, Nat.reduceEqDiff, Nat.reduceAdd, Nat.reduceSub, reduceIte, reduceCtorEq, Nat.reduceBEq, Nat.reduceLT, decide_true]
  simp only [dl_len, ↓wA, ↓wC, wB, Nat.reduceEqDiff, Nat.reduceAdd, Nat.reduceSub, reduceIte, reduceCtorEq, Nat.reduceBEq, Nat.reduceLT, decide_true]
  refine onC_i (by omega) ?_
  have hz : ofL (List.replicate (↑xs.length : Int).toNat zrow.d) = rowsD (xs.take 0 ++ List.replicate (xs.length - 0) zrow) := by rw [dl_replicate]; simp [rowsD]
  have hz' : D.st ((D.int IntKind.i64 0).cons ((D.int IntKind.i64 0).cons ((D.int IntKind.i64 0).cons ((D.int IntKind.i64 0).cons ((D.int IntKind.i64 0).cons D.nil))))) = zrow.d := rfl
  rw [hz', hz]
  refine exec_loop (fun i : Nat => ⟨[(0, .d (.sl false 5 (rowsD xs))), (3, .own 0), (4, .d (.int .i64 i))], [.val (.sl true 5 (rowsD (xs.take i ++ List.replicate (xs.length - i) zrow)))]⟩)
    (fun i => i ≤ xs.length) (fun i => xs.length - i) 0 (weak_of [] rfl ⟨⟨rfl, rfl⟩, ⟨rfl, rfl⟩, ⟨rfl, rfl⟩, trivial⟩) (Nat.zero_le _) ?_
  intro i hi
  by_cases hlt : i < xs.length
  · obtain ⟨r, hr⟩ := get_lt hlt
    have hd : decide ((i : Int) < (xs.length : Int)) = true := by simp; omega
    simp only [dl_len, hd, ↓wA, ↓wC, wB, Nat.reduceEqDiff, Nat.reduceAdd, Nat.reduceSub, reduceIte, reduceCtorEq, Nat.reduceBEq, Nat.reduceLT, decide_true]
    refine onC_i (by omega) ?_
    simp only [dl_nth, Int.toNat_natCast, hr, Option.map_some, rd_row, ↓wA, ↓wC, wB, Nat.reduceEqDiff, Nat.reduceAdd, Nat.reduceSub, reduceIte, reduceCtorEq, Nat.reduceBEq, Nat.reduceLT, decide_true]
    refine call_det (toYearRow_fn r) rfl rfl ?_
    simp only [Row.noOwn, ↓wA, ↓wC, wB, Nat.reduceEqDiff, Nat.reduceAdd, Nat.reduceSub, reduceIte, reduceCtorEq, Nat.reduceBEq, Nat.reduceLT, decide_true]
    refine onC_i (by omega) ?_
    have hn : (xs.take i ++ List.replicate (xs.length - i) zrow)[i]? = some zrow := by
      rw [List.getElem?_append_right (by simp; omega), List.length_take, Nat.min_eq_left (by omega), Nat.sub_self, show xs.length - i = (xs.length - (i + 1)) + 1 by omega]; rfl
    simp only [dl_nth, Int.toNat_natCast, hn, Option.map_some, isV_row, size_row, dl_setN, fill_step hr, ↓wA, ↓wC, wB, Nat.reduceEqDiff, Nat.reduceAdd, Nat.reduceSub, reduceIte, reduceCtorEq, Nat.reduceBEq, Nat.reduceLT, decide_true]
    refine onI_bare (by simp only [InR]; omega) ?_
    exact ⟨i + 1, weak_of [] rfl ⟨⟨rfl, rfl⟩, ⟨rfl, rfl⟩, ⟨rfl, rfl⟩, trivial⟩, by omega, by omega⟩
  · have hd : decide ((i : Int) < (xs.length : Int)) = false := by simp; omega
    have e : i = xs.length := by omega
    simp only [dl_len, hd, ↓wA, ↓wC, wB, Nat.reduceEqDiff, Nat.reduceAdd, Nat.reduceSub, reduceIte, reduceCtorEq, Nat.reduceBEq, Nat.reduceLT, decide_true]
    simp [e]
end Go.Pe.Tryd
