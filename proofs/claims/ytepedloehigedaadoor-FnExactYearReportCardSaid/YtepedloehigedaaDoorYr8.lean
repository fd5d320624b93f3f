/- The rests after the rows: the model's. -/
import Derived.Test.YtepedloehigedaaDoorYr7
set_option maxRecDepth 100000
set_option maxHeartbeats 4000000
set_option linter.all false
namespace Go.Pe.Tryd
open Go.Proofs.Tryd
theorem okFrom_cons {s : Int} {p : Option Int} {r : Row} {rs : List Row} (h : okFrom s p (r :: rs) = true) : r.ok = true ∧ 0 ≤ s + r.m - r.gone ∧ okFrom (s + r.m - r.gone) (some r.y) rs = true := by
  simp only [okFrom, Bool.and_eq_true, decide_eq_true_eq] at h
  exact ⟨h.1, h.2.2.1, h.2.2.2⟩
theorem ok_all : ∀ (xs : List Row) (s : Int) (p : Option Int) (B : Int), okFrom s p xs = true → 0 ≤ s → s ≤ B → (∀ r ∈ xs, r.ok = true) ∧ ∀ v ∈ rests s xs, 0 ≤ v ∧ v ≤ B + 9999 * xs.length
  | [], s, p, B, _, _, _ => ⟨by simp, by simp [rests]⟩
  | r :: xs, s, p, B, h, h0, hB => by
    obtain ⟨h1, h2, h3⟩ := okFrom_cons h
    have hb := ok_bounds h1
    have hg : r.gone = r.k + r.x + r.g := rfl
    obtain ⟨k1, k2⟩ := ok_all xs _ _ (B + 9999) h3 h2 (by omega)
    refine ⟨fun q hq => ?_, fun v hv => ?_⟩
    · rcases List.mem_cons.1 hq with hq | hq
      · rw [hq]; exact h1
      · exact k1 q hq
    · simp only [rests] at hv
      have hl : ((r :: xs).length : Int) = xs.length + 1 := by simp
      rcases List.mem_cons.1 hv with hv | hv
      · rw [hv]; omega
      · have := k2 v hv; omega
theorem rests_len : ∀ (xs : List Row) (s : Int), (rests s xs).length = xs.length
  | [], s => rfl
  | r :: xs, s => by simp [rests, rests_len xs]
theorem good_parts {stock : Int} {xs : List Row} (h : good stock xs = true) : 0 ≤ stock ∧ stock ≤ 9999 ∧ xs.length ≤ 10 ∧ okFrom stock none xs = true := by
  simp only [good, Bool.and_eq_true, decide_eq_true_eq] at h
  have := count_of h.1
  exact ⟨this.1, this.2, h.2.1, h.2.2⟩
theorem good_ok {stock : Int} {xs : List Row} (h : good stock xs = true) {i : Nat} {r : Row} (hr : xs[i]? = some r) : r.ok = true := by
  obtain ⟨h0, h1, h2, h3⟩ := good_parts h
  exact (ok_all xs stock none 9999 h3 h0 h1).1 r (List.mem_of_getElem? hr)
theorem good_rest {stock : Int} {xs : List Row} (h : good stock xs = true) {i : Nat} {v : Int} (hr : (rests stock xs)[i]? = some v) : 0 ≤ v ∧ v ≤ 109989 := by
  obtain ⟨h0, h1, h2, h3⟩ := good_parts h
  have := (ok_all xs stock none 9999 h3 h0 h1).2 v (List.mem_of_getElem? hr)
  omega
theorem l26Rests_fn (stock : Int) (xs : List Row) (hg : good stock xs = true) : Fn prog 31 [.int .i64 stock, .sl false 5 (rowsD xs)] (fun rs => rs = [.sl true 1 (dl iD (rests stock xs))]) := by
  obtain ⟨g0, g1, g2, g3⟩ := good_parts hg
  refine Fn_of' (fn := f31) (by exact func31) c31 r31 (n := 32) (by rfl) (rv := [.tmp 4]) (by rfl) (by simp) ?_
  unfold m31
  try simp only [↓wA, ↓wC, wB, Nat.reduceEqDiff, Nat.reduceAdd, Nat.reduceSub, reduceIte, reduceCtorEq, Nat.reduceBEq, Nat.reduceLT, decide_true]
  refine exec_loop (fun p : Nat × Int × List Int => ⟨[(0, .d (.int .i64 p.2.1)), (1, .d (.sl false 5 (rowsD xs))), (5, .own 0), (6, .d (.int .i64 p.1))], [.val (.sl true 1 (dl iD p.2.2))]⟩)
    (fun p => p.1 ≤ xs.length ∧ p.2.2.length = p.1 ∧ 0 ≤ p.2.1 ∧ p.2.1 ≤ 9999 * (p.1 + 1) ∧ okFrom p.2.1 (prevY xs p.1) (xs.drop p.1) = true ∧ rests stock xs = p.2.2 ++ rests p.2.1 (xs.drop p.1)) (fun p => xs.length - p.1) (0, stock, [])
    (weak_of [] rfl ⟨⟨rfl, rfl⟩, ⟨rfl, rfl⟩, ⟨rfl, rfl⟩, ⟨rfl, rfl⟩, trivial⟩) ⟨Nat.zero_le _, rfl, g0, by simp only; omega, by simpa [prevY] using g3, by simp⟩ ?_
  rintro ⟨i, st, out⟩ ⟨hi, hout, hs0, hs1, hok, hre⟩
  simp only at hi hout hs0 hs1 hok hre
  by_cases hlt : i < xs.length
  · obtain ⟨r, hr⟩ := get_lt hlt
    have hd : decide ((i : Int) < (xs.length : Int)) = true := by simp; omega
    have h0 : (0 : Int) ≤ (i : Int) := by omega
    rw [drop_get hr] at hok hre
    obtain ⟨k1, k2, k3⟩ := okFrom_cons hok
    have hb := ok_bounds k1
    have hgn : r.gone = r.k + r.x + r.g := rfl
    try simp only [dl_len, hd, dl_nth, Int.toNat_natCast, hr, Option.map_some, ↓rd_row, ↓fa_row1, h0, onC_true, ↓wA, ↓wC, wB, Nat.reduceEqDiff, Nat.reduceAdd, Nat.reduceSub, reduceIte, reduceCtorEq, Nat.reduceBEq, Nat.reduceLT, decide_true]
    refine onI_bare (by simp only [InR]; omega) ?_
    try simp only [dl_len, hd, dl_nth, Int.toNat_natCast, hr, Option.map_some, ↓rd_row, h0, onC_true, ↓wA, ↓wC, wB, Nat.reduceEqDiff, Nat.reduceAdd, Nat.reduceSub, reduceIte, reduceCtorEq, Nat.reduceBEq, Nat.reduceLT, decide_true]
    refine callP_det (l26Gone_fn r k1) rfl rfl ?_
    try simp only [↓wA, ↓wC, wB, Nat.reduceEqDiff, Nat.reduceAdd, Nat.reduceSub, reduceIte, reduceCtorEq, Nat.reduceBEq, Nat.reduceLT, decide_true]
    refine onI_bare (by simp only [InR]; omega) ?_
    try simp only [dl_len, app_int, ↓wA, ↓wC, wB, Nat.reduceEqDiff, Nat.reduceAdd, Nat.reduceSub, reduceIte, reduceCtorEq, Nat.reduceBEq, Nat.reduceLT, decide_true]
    refine onC_i (by first | omega | simp) ?_
    try refine onC_i (by omega) ?_
    try simp only [app_int, ↓wA, ↓wC, wB, Nat.reduceEqDiff, Nat.reduceAdd, Nat.reduceSub, reduceIte, reduceCtorEq, Nat.reduceBEq, Nat.reduceLT, decide_true]
    refine onI_bare (by simp only [InR]; omega) ?_
    refine ⟨(i + 1, st + r.m - r.gone, out ++ [st + r.m - r.gone]), weak_of _ rfl ⟨⟨rfl, rfl⟩, ⟨rfl, rfl⟩, ⟨rfl, rfl⟩, ⟨rfl, rfl⟩, trivial⟩, ⟨by omega, by simp [hout], k2, by simp only; omega, ?_, ?_⟩, by simp only; omega⟩
    · simpa [prevY, hr] using k3
    · rw [hre]; simp [rests]
  · have hd : decide ((i : Int) < (xs.length : Int)) = false := by simp; omega
    have e : i = xs.length := by omega
    have ho : rests stock xs = out := by rw [hre, e, List.drop_length]; simp [rests]
    try simp only [dl_len, hd, ↓wA, ↓wC, wB, Nat.reduceEqDiff, Nat.reduceAdd, Nat.reduceSub, reduceIte, reduceCtorEq, Nat.reduceBEq, Nat.reduceLT, decide_true]
    rw [ho]
def lastI (xs : List Int) : Int := xs.getD (xs.length - 1) 0
def ytc (stock : Int) (xs : List Row) : List D :=
  if good stock xs then match (rests stock xs)[xs.length - 1]?, xs[xs.length - 1]? with
    | some v, some r => if r.gone = 0 then [.int .i64 0, .bool (decide (v = 0))] else [.int .i64 ((v + r.gone - 1).tdiv r.gone), .bool true]
    | _, _ => [.int .i64 0, .bool false]
  else [.int .i64 0, .bool false]
theorem ytc_bad {stock : Int} {xs : List Row} (h : good stock xs = false) : ytc stock xs = [.int .i64 0, .bool false] := by simp [ytc, h]
theorem ytc_none {stock : Int} {xs : List Row} (h : xs.length = 0) : ytc stock xs = [.int .i64 0, .bool false] := by
  have : xs = [] := List.eq_nil_of_length_eq_zero h
  subst this
  simp [ytc, rests]
theorem tdiv_small {v g : Int} (hv : 0 ≤ v) (hv2 : v ≤ 109989) (h : 0 < g) (hg : g ≤ 30000) : InR .i64 ((v + g - 1).tdiv g) := by
  have h1 : 0 ≤ (v + g - 1).tdiv g := Int.tdiv_nonneg (by omega) (by omega)
  have h2 : (v + g - 1).tdiv g ≤ v + g - 1 := Int.tdiv_le_self _ (by omega)
  exact ⟨by omega, by omega⟩
end Go.Pe.Tryd
