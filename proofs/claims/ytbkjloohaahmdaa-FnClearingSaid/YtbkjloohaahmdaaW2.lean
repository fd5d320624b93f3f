/- What the law of clearing says, in plain lists -/
import Derived.Test.YtbkjloohaahmdaaW1
set_option linter.all false
namespace Go.Pe.Try
open Go.Proofs.Try
/-- no rest is greater than the largest. -/
theorem largest_law (st : Int) (xs : List Row) (hs : InR .i64 st) (hlen : xs.length ≤ 1048576) : ∃ (a m : Int) (c : Bool), Fn prog 18 [.int .i64 st, .sl false 5 (rowsD xs)] (fun rs => rs = [.int .i64 a, .int .i64 m, .bool c]) ∧ Fn prog 19 [.int .i64 st, .sl false 5 (rowsD xs)] (fun rs => rs = [.int .i64 a, .int .i64 m, .bool c]) ∧ (c = true → good st xs = true ∧ ∀ (i : Nat) (v : Int), (rests st xs)[i]? = some v → v ≤ m) := by
  by_cases hg : good st xs = false ∨ xs.length = 0
  · exact ⟨0, 0, false, largest_bad st xs hlen hg, specLargest_bad st xs hs hlen hg, fun h => by cases h⟩
  · have hg1 : good st xs = true := by
      cases h : good st xs with
      | true => rfl
      | false => exact absurd (Or.inl h) hg
    have hn : xs.length ≠ 0 := fun h => hg (.inr h)
    obtain ⟨b, m, hb⟩ := upTo_ex (v := rests st xs) (xs.length - 1) (by rw [rests_len]; omega)
    rw [show xs.length - 1 + 1 = (rests st xs).length by rw [rests_len]; omega] at hb
    exact ⟨_, m, true, largest_fn st xs hlen hg1 hn b m hb, specLargest_fn st xs hs hlen hg1 hn b m hb, fun _ => ⟨hg1, fun i v hv => hb.le i v (lt_of_get hv) hv⟩⟩
/-- in the told years the rest is gone, in one less it is not. -/
theorem ytc_law (st : Int) (xs : List Row) : ∃ (y : Int) (b : Bool), ytc st xs = [.int .i64 y, .bool b] ∧ (b = true → good st xs = true ∧ xs.length ≠ 0 ∧ ∃ r v, xs[xs.length - 1]? = some r ∧ (rests st xs)[xs.length - 1]? = some v ∧ r.ok = true ∧ 0 ≤ v ∧ v ≤ 109989 ∧ 0 ≤ y ∧ y ≤ 200000 ∧ v ≤ y * (r.k + r.x + r.g) ∧ y * (r.k + r.x + r.g) ≤ 200000 ∧ (0 < y → -40000 ≤ (y - 1) * (r.k + r.x + r.g) ∧ (y - 1) * (r.k + r.x + r.g) < v)) := by
  unfold ytc
  split
  case isFalse => exact ⟨0, false, rfl, fun h => by cases h⟩
  rename_i hg
  split
  case h_2 => exact ⟨0, false, rfl, fun h => by cases h⟩
  rename_i v r hv hr
  have hok := good_ok hg hr
  have hb := ok_bounds hok
  have hvb := good_rest hg hv
  have hgone : r.gone = r.k + r.x + r.g := rfl
  have hn : xs.length ≠ 0 := by have := lt_of_get hr; omega
  split
  · rename_i h0
    refine ⟨0, decide (v = 0), rfl, fun h => ⟨hg, hn, r, v, hr, hv, hok, hvb.1, hvb.2, by omega, by omega, ?_, ?_, fun h => by omega⟩⟩
    · have := of_decide_eq_true h; omega
    · omega
  · rename_i h0
    have hgp0 : 0 < r.gone := by omega
    have hgs : r.gone ≤ 30000 := by omega
    refine ⟨_, true, rfl, fun _ => ⟨hg, hn, r, v, hr, hv, hok, hvb.1, hvb.2, ?_⟩⟩
    rw [← hgone]
    clear hgone h0 hb
    generalize r.gone = g at *
    have hgp : 0 < g := by omega
    have hq : (v + g - 1).tdiv g = (v + g - 1) / g := Int.tdiv_eq_ediv_of_nonneg (by omega)
    have he := Int.mul_ediv_add_emod (v + g - 1) g
    have hm0 := Int.emod_nonneg (v + g - 1) (show g ≠ 0 by omega)
    have hm1 := Int.emod_lt_of_pos (v + g - 1) hgp
    have hq0 : 0 ≤ (v + g - 1) / g := Int.ediv_nonneg (by omega) (by omega)
    have hq1 : (v + g - 1) / g ≤ v + g - 1 := Int.ediv_le_self _ (by omega)
    rw [hq]
    generalize (v + g - 1) / g = q at *
    have hc : q * g = g * q := Int.mul_comm q g
    have hs : (q - 1) * g = g * q - g := by rw [Int.sub_mul, hc, Int.one_mul]
    rw [hs, hc]
    refine ⟨hq0, by omega, by omega, by omega, fun _ => ⟨by omega, by omega⟩⟩
theorem ups_mem : ∀ (n : Nat) (k x : Int), x ∈ ups n k → k ≤ x ∧ x < k + n
  | 0, k, x, h => by simp [ups] at h
  | n + 1, k, x, h => by
    rw [ups] at h
    rcases List.mem_cons.1 h with h | h
    · omega
    · have := ups_mem n (k + 1) x h; omega
theorem okFrom_next {s : Int} {p : Option Int} {r q : Row} {rs : List Row} (h : okFrom s p (r :: q :: rs) = true) : r.y < q.y := by
  have h3 := (okFrom_cons h).2.2
  simp only [okFrom, Bool.and_eq_true, decide_eq_true_eq] at h3
  exact h3.2.1
theorem okFrom_gt : ∀ (rs : List Row) (s : Int) (p : Option Int) (r : Row), okFrom s p (r :: rs) = true → ∀ q ∈ rs, r.y < q.y
  | [], s, p, r, _, q, hq => by cases hq
  | a :: rs, s, p, r, h, q, hq => by
    have h1 := okFrom_next h
    rcases List.mem_cons.1 hq with hq | hq
    · rw [hq]; exact h1
    · have := okFrom_gt rs _ _ a (okFrom_cons h).2.2 q hq; omega
theorem gaps_gt : ∀ (rs : List Row) (s : Int) (p : Option Int) (r : Row), okFrom s p (r :: rs) = true → ∀ x ∈ gaps (r :: rs), r.y < x
  | [], s, p, r, _, x, hx => by simp [gaps] at hx
  | a :: rs, s, p, r, h, x, hx => by
    have h1 := okFrom_next h
    rw [gaps] at hx
    rcases List.mem_append.1 hx with hx | hx
    · have := ups_mem _ _ _ hx; omega
    · have := gaps_gt rs _ _ a (okFrom_cons h).2.2 x hx; omega
/-- missing years have no row. -/
theorem gaps_law : ∀ (xs : List Row) (s : Int) (p : Option Int), okFrom s p xs = true → ∀ r ∈ xs, r.y ∉ gaps xs
  | [], s, p, _, r, hr => by cases hr
  | [a], s, p, _, r, hr => by simp [gaps]
  | a :: b :: rs, s, p, h, r, hr => by
    have h1 := okFrom_next h
    have h2 := (okFrom_cons h).2.2
    intro hx
    rw [gaps] at hx
    rcases List.mem_cons.1 hr with hr | hr
    · subst hr
      rcases List.mem_append.1 hx with hx | hx
      · have := ups_mem _ _ _ hx; omega
      · have := gaps_gt rs _ _ b h2 _ hx; omega
    · rcases List.mem_append.1 hx with hx | hx
      · have h3 := ups_mem _ _ _ hx
        have h4 : b.y ≤ r.y := by
          rcases List.mem_cons.1 hr with hr | hr
          · rw [hr]; omega
          · have := okFrom_gt rs _ _ b h2 r hr; omega
        omega
      · exact gaps_law (b :: rs) _ _ h2 r hr hx
theorem miss_law (st : Int) (xs : List Row) : ∃ (v : List Int) (b : Bool), missR st xs = [.sl true 1 (dl iD v), .bool b] ∧ v.length ≤ 1048576 ∧ ∀ r ∈ xs, v.contains r.y = false := by
  unfold missR
  split
  · rename_i hg
    obtain ⟨h0, h1, h2, h3⟩ := good_parts hg
    refine ⟨_, true, rfl, ?_, fun r hr => ?_⟩
    · have hlen : ∀ ys : List Row, (∀ r ∈ ys, r.ok = true) → (gaps ys).length ≤ 301 * ys.length := by
        intro ys
        induction ys with
        | nil => intro _; simp [gaps]
        | cons a ys ih =>
          intro h
          cases ys with
          | nil => simp [gaps]
          | cons b rs =>
            have h1 := ih (fun r hr => h r (List.mem_cons_of_mem _ hr))
            have ha := ok_bounds (h a (by simp))
            have hb := ok_bounds (h b (by simp))
            rw [gaps, List.length_append, ups_len]
            simp only [List.length_cons] at h1 ⊢
            omega
      have := hlen xs (ok_all xs st none 9999 h3 h0 h1).1
      omega
    · cases hc : (gaps xs).contains r.y with
      | false => rfl
      | true => exact absurd (List.contains_iff_mem.1 hc) (gaps_law xs st none h3 r hr)
  · exact ⟨[], false, rfl, by simp, fun _ _ => rfl⟩
theorem sums_le : ∀ xs : List Row, (∀ r ∈ xs, r.ok = true) → sumX xs ≤ sumG xs
  | [], _ => by simp [sumX, sumG]
  | r :: xs, h => by
    have hb := ok_bounds (h r (by simp))
    have hg : r.gone = r.k + r.x + r.g := rfl
    have := sums_le xs fun q hq => h q (by simp [hq])
    simp only [sumX, sumG]
    omega
theorem share_law (st : Int) (xs : List Row) : ∃ (m n : Int) (b : Bool), shareR st xs = [.int .i64 m, .int .i64 n, .bool b] ∧ (b = true → m ≤ n) := by
  unfold shareR
  split
  case isFalse => exact ⟨0, 0, false, rfl, fun h => by cases h⟩
  rename_i hg
  unfold share
  split
  · exact ⟨0, 0, false, rfl, fun h => by cases h⟩
  · rename_i h0
    obtain ⟨g0, g1, g2, g3⟩ := good_parts hg
    have hs := good_sums hg
    have hl := sums_le xs (ok_all xs st none 9999 g3 g0 g1).1
    refine ⟨_, _, true, rfl, fun _ => ?_⟩
    have hgp := Nat.gcd_pos_of_pos_right (sumX xs).toNat (show 0 < (sumG xs).toNat by omega)
    exact Int.tdiv_le_tdiv (by omega) (by omega)
end Go.Pe.Try
