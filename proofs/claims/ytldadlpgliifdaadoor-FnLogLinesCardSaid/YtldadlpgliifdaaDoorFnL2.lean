/- The law FnLogLines, walked. -/
import Derived.Test.YtldadlpgliifdaaDoorW2
set_option maxRecDepth 100000
set_option maxHeartbeats 4000000
set_option linter.all false
namespace Go.Pe.Tryd
open Go.Proofs.Tryd
theorem fnLogLines_fn (code : List UInt8) : Fn prog 8 [.sl false 1 (bytesD code)] (fun rs => rs = [.bool true]) := by
  have hB := vBig_fn code
  cases hb : decide ((65536 : Int) < (code.length : Int)) with
  | true =>
    rw [hb] at hB
    refine Fn_of' (fn := f8) (by exact func8) c8 r8 (n := 129) (by rfl) (rv := [.tmp 2]) (by rfl) (by simp) ?_
    unfold m8
    repeat' (first
        | (simp only [↓wA, ↓wC, wB, frzBE, frzBS, Nat.reduceEqDiff, Nat.reduceAdd, Nat.reduceSub, reduceIte, reduceCtorEq, Nat.reduceBEq, Nat.reduceLT, decide_true])
        | (refine call_det (hB) rfl rfl ?_)
        | (refine callP_det (hB) rfl rfl ?_)
        | (refine execG_split (fun h => ?_) (fun h => ?_) <;> simp only [h])
        | (refine execC_split (fun h => ?_) (fun h => ?_) <;> (try simp only [h]))
        | (refine onPick_split (fun h => ?_) (fun h => ?_) <;> (try simp only [h])))
  | false =>
    rw [hb] at hB
    have hc : code.length ≤ 1048576 := by have := of_decide_eq_false hb; omega
    refine Fn_of' (fn := f8) (by exact func8) c8 r8 (n := 129) (by rfl) (rv := [.tmp 2]) (by rfl) (by simp) ?_
    unfold m8
    repeat' (first
        | (simp only [↓wA, ↓wC, wB, frzBE, frzBS, Nat.reduceEqDiff, Nat.reduceAdd, Nat.reduceSub, reduceIte, reduceCtorEq, Nat.reduceBEq, Nat.reduceLT, decide_true])
        | (refine call_det (hB) rfl rfl ?_)
        | (refine callP_det (hB) rfl rfl ?_)
        | (refine execG_split (fun h => ?_) (fun h => ?_) <;> simp only [h])
        | (refine execC_split (fun h => ?_) (fun h => ?_) <;> (try simp only [h]))
        | (refine onPick_split (fun h => ?_) (fun h => ?_) <;> (try simp only [h])))
    refine call_rel (drawEncode_fn code hc) rfl fun rs h => ?_
    obtain ⟨k, c, r, rfl, hcl, hrl⟩ := h
    refine ⟨.inl rfl, ?_⟩
    have m1 : c.length ≤ maxLen := by rw [maxLen_eq]; omega
    have m2 : r.length ≤ maxLen := by rw [maxLen_eq]; omega
    have hE := encode_fn k c r m1 m2
    have hES := specEncode_fn k c r m1 m2
    -- what is encoded
    obtain ⟨s, ok, hs, hsl, hokT, hokF⟩ : ∃ (s : List UInt8) (ok : Bool), encR k c r = [.str s, .bool ok] ∧ s.length ≤ 30000 ∧
        (ok = true → opens 60 0 s = if k = 0 then ([(c, r)], s.length) else ([], 0)) ∧ (ok = false → s = []) := by
      unfold encR
      split
      · rename_i h
        have hk := h.1
        simp only [within, Bool.and_eq_true, decide_eq_true_eq] at hk
        have hll := line_len (k := k) (by simp only [InR]; omega) h.2
        refine ⟨line k c r ++ [10], true, rfl, by simp only [List.length_append, List.length_singleton]; omega, fun _ => ?_, fun h => (by cases h)⟩
        rw [line_first hk.1 hk.2 h.2]
        simp only [List.length_append, List.length_singleton]
      · exact ⟨[], false, rfl, by simp, fun h => (by cases h), fun _ => rfl⟩
    rw [hs] at hE hES
    simp only [recD] at hE hES ⊢
    repeat' (first
        | (simp only [onC_true, ↓wA, ↓wC, wB, frzBE, frzBS, Nat.reduceEqDiff, Nat.reduceAdd, Nat.reduceSub, reduceIte, reduceCtorEq, Nat.reduceBEq, Nat.reduceLT, decide_true])
        | (refine call_det (hE) rfl rfl ?_)
        | (refine callP_det (hE) rfl rfl ?_)
        | (refine call_det (hES) rfl rfl ?_)
        | (refine callP_det (hES) rfl rfl ?_)
        | (refine execG_split (fun h => ?_) (fun h => ?_) <;> simp only [h])
        | (refine execC_split (fun h => ?_) (fun h => ?_) <;> (try simp only [h]))
        | (refine onPick_split (fun h => ?_) (fun h => ?_) <;> (try simp only [h])))
    refine call_rel (drawRecover_fn code hc) rfl fun rs h => ?_
    obtain ⟨t, rfl, htl⟩ := h
    refine ⟨.inl rfl, ?_⟩
    have hRI := implRecover_fn t (by omega)
    have hRS := specRecover_fn t (by omega)
    have hRs := implRecover_fn s (by omega)
    obtain ⟨x0, n0, e0, b0, hrs, hf⟩ : ∃ (x0 : List UInt8) (n0 e0 : Int) (b : Bool), recov s = [logD x0 [] n0, .int .i64 e0, .bool b] ∧
        (ok = true → (decide (0 < e0) = decide (k = 0)) ∧ (k = 0 → n0 = 1)) := by
      unfold recov
      rw [if_pos hsl]
      refine ⟨_, _, _, _, rfl, fun h => ?_⟩
      rw [hokT h]
      split
      · rename_i hk
        refine ⟨?_, fun _ => rfl⟩
        have : 0 < s.length := by
          rcases Nat.eq_zero_or_pos s.length with h0 | h0
          · have h1 := (opens_le 60 0 s).2
            have h2 : s = [] := List.eq_nil_of_length_eq_zero h0
            have h3 := hokT h
            rw [if_pos hk, h2, opens_no10 (by simp)] at h3
            cases h3
          · exact h0
        rw [decide_eq_true hk]
        exact decide_eq_true (by simp only; omega)
      · rename_i hk
        exact ⟨by rw [decide_eq_false hk]; rfl, fun h => absurd h hk⟩
    rw [hrs] at hRs
    obtain ⟨md, mc, me, mt, hrt, hmt⟩ : ∃ (md : List UInt8) (mc me : Int) (mt : Bool), recov t = [logD md [] mc, .int .i64 me, .bool mt] ∧ md.length ≤ 30000 ∧ (mt = true → lv md [] mc = true) := by
      unfold recov
      split
      · exact ⟨_, _, _, _, rfl, by rw [List.length_take]; omega, fun _ => lv_recov t⟩
      · exact ⟨[], 0, 0, false, rfl, by simp, fun h => by cases h⟩
    obtain ⟨hml, hmt⟩ := hmt
    rw [hrt] at hRI hRS
    have hSy := implSync_fn md [] mc (by simp only [List.length_nil]; omega)
    have hV := isValidLog_fn md [] mc (by simp only [List.length_nil]; omega)
    obtain ⟨yd, yp, yc, yb, hsy, hyy⟩ : ∃ (yd yp : List UInt8) (yc : Int) (yb : Bool), syncR md [] mc = [logD yd yp yc, .bool yb] ∧ (mt = true → yb = true ∧ yd = md ∧ yp = [] ∧ yc = mc) := by
      unfold syncR
      by_cases hl : lv md [] mc = true
      · rw [if_pos hl]
        exact ⟨_, _, _, _, rfl, fun _ => ⟨rfl, by simp, rfl, rfl⟩⟩
      · rw [if_neg hl]
        exact ⟨_, _, _, _, rfl, fun h => absurd (hmt h) hl⟩
    rw [hsy] at hSy
    have hoo : (ok == ok) = true := by cases ok <;> rfl
    have hmm : (mt == mt) = true := by cases mt <;> rfl
    have tailF : True := trivial
    simp only [logD] at hRI hRS hRs hSy hV ⊢
    cases hmtc : mt with
    | false =>
      rw [hmtc] at hRI hRS
      cases hokc : ok with
      | false =>
        rw [hokc] at hoo
        repeat' (first
            | (simp only [onC_true, decide_true, hoo, ↓wA, ↓wC, wB, frzBE, frzBS, Nat.reduceEqDiff, Nat.reduceAdd, Nat.reduceSub, reduceIte, reduceCtorEq, Nat.reduceBEq, Nat.reduceLT, decide_true])
            | (refine call_det (hRI) rfl rfl ?_)
            | (refine callP_det (hRI) rfl rfl ?_)
            | (refine call_det (hRS) rfl rfl ?_)
            | (refine callP_det (hRS) rfl rfl ?_)
            | (refine call_det (hRs) rfl rfl ?_)
            | (refine callP_det (hRs) rfl rfl ?_)
            | (refine call_det (hSy) rfl rfl ?_)
            | (refine callP_det (hSy) rfl rfl ?_)
            | (refine call_det (hV) rfl rfl ?_)
            | (refine callP_det (hV) rfl rfl ?_)
            | (refine execG_split (fun h => ?_) (fun h => ?_) <;> simp only [h])
            | (refine execC_split (fun h => ?_) (fun h => ?_) <;> (try simp only [h]))
            | (refine onPick_split (fun h => ?_) (fun h => ?_) <;> (try simp only [h])))
        all_goals trace_state
      | true =>
        obtain ⟨hf1, hf2⟩ := hf hokc
        rw [hokc] at hoo
        by_cases hk : k = 0
        · have hk1 := decide_eq_true hk
          rw [hk1] at hf1
          have hn := hf2 hk
          subst hn
          repeat' (first
              | (simp only [onC_true, decide_true, hoo, hk1, hf1, ↓wA, ↓wC, wB, frzBE, frzBS, Nat.reduceEqDiff, Nat.reduceAdd, Nat.reduceSub, reduceIte, reduceCtorEq, Nat.reduceBEq, Nat.reduceLT, decide_true])
              | (refine call_det (hRI) rfl rfl ?_)
              | (refine callP_det (hRI) rfl rfl ?_)
              | (refine call_det (hRS) rfl rfl ?_)
              | (refine callP_det (hRS) rfl rfl ?_)
              | (refine call_det (hRs) rfl rfl ?_)
              | (refine callP_det (hRs) rfl rfl ?_)
              | (refine call_det (hSy) rfl rfl ?_)
              | (refine callP_det (hSy) rfl rfl ?_)
              | (refine call_det (hV) rfl rfl ?_)
              | (refine callP_det (hV) rfl rfl ?_)
              | (refine execG_split (fun h => ?_) (fun h => ?_) <;> simp only [h])
              | (refine execC_split (fun h => ?_) (fun h => ?_) <;> (try simp only [h]))
              | (refine onPick_split (fun h => ?_) (fun h => ?_) <;> (try simp only [h])))
          all_goals trace_state
        · have hk1 := decide_eq_false hk
          rw [hk1] at hf1
          repeat' (first
              | (simp only [onC_true, decide_true, hoo, hk1, hf1, ↓wA, ↓wC, wB, frzBE, frzBS, Nat.reduceEqDiff, Nat.reduceAdd, Nat.reduceSub, reduceIte, reduceCtorEq, Nat.reduceBEq, Nat.reduceLT, decide_true])
              | (refine call_det (hRI) rfl rfl ?_)
              | (refine callP_det (hRI) rfl rfl ?_)
              | (refine call_det (hRS) rfl rfl ?_)
              | (refine callP_det (hRS) rfl rfl ?_)
              | (refine call_det (hRs) rfl rfl ?_)
              | (refine callP_det (hRs) rfl rfl ?_)
              | (refine call_det (hSy) rfl rfl ?_)
              | (refine callP_det (hSy) rfl rfl ?_)
              | (refine call_det (hV) rfl rfl ?_)
              | (refine callP_det (hV) rfl rfl ?_)
              | (refine execG_split (fun h => ?_) (fun h => ?_) <;> simp only [h])
              | (refine execC_split (fun h => ?_) (fun h => ?_) <;> (try simp only [h]))
              | (refine onPick_split (fun h => ?_) (fun h => ?_) <;> (try simp only [h])))
          all_goals trace_state
    | true =>
      obtain ⟨rfl, rfl, rfl, rfl⟩ := hyy hmtc
      rw [hmt hmtc] at hV
      rw [hmtc] at hRI hRS
      cases hokc : ok with
      | false =>
        have hs0 := decide_eq_true (hokF hokc)
        rw [hokc] at hoo
        repeat' (first
            | (simp only [onC_true, decide_true, hoo, hs0, ↓wA, ↓wC, wB, frzBE, frzBS, Nat.reduceEqDiff, Nat.reduceAdd, Nat.reduceSub, reduceIte, reduceCtorEq, Nat.reduceBEq, Nat.reduceLT, decide_true])
            | (refine call_det (hRI) rfl rfl ?_)
            | (refine callP_det (hRI) rfl rfl ?_)
            | (refine call_det (hRS) rfl rfl ?_)
            | (refine callP_det (hRS) rfl rfl ?_)
            | (refine call_det (hRs) rfl rfl ?_)
            | (refine callP_det (hRs) rfl rfl ?_)
            | (refine call_det (hSy) rfl rfl ?_)
            | (refine callP_det (hSy) rfl rfl ?_)
            | (refine call_det (hV) rfl rfl ?_)
            | (refine callP_det (hV) rfl rfl ?_)
            | (refine execG_split (fun h => ?_) (fun h => ?_) <;> simp only [h])
            | (refine execC_split (fun h => ?_) (fun h => ?_) <;> (try simp only [h]))
            | (refine onPick_split (fun h => ?_) (fun h => ?_) <;> (try simp only [h])))
        all_goals trace_state
      | true =>
        obtain ⟨hf1, hf2⟩ := hf hokc
        rw [hokc] at hoo
        by_cases hk : k = 0
        · have hk1 := decide_eq_true hk
          rw [hk1] at hf1
          have hn := hf2 hk
          subst hn
          repeat' (first
              | (simp only [onC_true, decide_true, hoo, hk1, hf1, ↓wA, ↓wC, wB, frzBE, frzBS, Nat.reduceEqDiff, Nat.reduceAdd, Nat.reduceSub, reduceIte, reduceCtorEq, Nat.reduceBEq, Nat.reduceLT, decide_true])
              | (refine call_det (hRI) rfl rfl ?_)
              | (refine callP_det (hRI) rfl rfl ?_)
              | (refine call_det (hRS) rfl rfl ?_)
              | (refine callP_det (hRS) rfl rfl ?_)
              | (refine call_det (hRs) rfl rfl ?_)
              | (refine callP_det (hRs) rfl rfl ?_)
              | (refine call_det (hSy) rfl rfl ?_)
              | (refine callP_det (hSy) rfl rfl ?_)
              | (refine call_det (hV) rfl rfl ?_)
              | (refine callP_det (hV) rfl rfl ?_)
              | (refine execG_split (fun h => ?_) (fun h => ?_) <;> simp only [h])
              | (refine execC_split (fun h => ?_) (fun h => ?_) <;> (try simp only [h]))
              | (refine onPick_split (fun h => ?_) (fun h => ?_) <;> (try simp only [h])))
          all_goals trace_state
        · have hk1 := decide_eq_false hk
          rw [hk1] at hf1
          repeat' (first
              | (simp only [onC_true, decide_true, hoo, hk1, hf1, ↓wA, ↓wC, wB, frzBE, frzBS, Nat.reduceEqDiff, Nat.reduceAdd, Nat.reduceSub, reduceIte, reduceCtorEq, Nat.reduceBEq, Nat.reduceLT, decide_true])
              | (refine call_det (hRI) rfl rfl ?_)
              | (refine callP_det (hRI) rfl rfl ?_)
              | (refine call_det (hRS) rfl rfl ?_)
              | (refine callP_det (hRS) rfl rfl ?_)
              | (refine call_det (hRs) rfl rfl ?_)
              | (refine callP_det (hRs) rfl rfl ?_)
              | (refine call_det (hSy) rfl rfl ?_)
              | (refine callP_det (hSy) rfl rfl ?_)
              | (refine call_det (hV) rfl rfl ?_)
              | (refine callP_det (hV) rfl rfl ?_)
              | (refine execG_split (fun h => ?_) (fun h => ?_) <;> simp only [h])
              | (refine execC_split (fun h => ?_) (fun h => ?_) <;> (try simp only [h]))
              | (refine onPick_split (fun h => ?_) (fun h => ?_) <;> (try simp only [h])))
          all_goals trace_state
theorem lawFnLogLines (x0 : D) (h0 : Typed (.sl 1 (.int .u8)) x0) : Fn prog 8 [x0] (fun rs => rs = [.bool true]) := by
  obtain ⟨code, rfl⟩ := bytes_of x0 h0
  exact fnLogLines_fn code
end Go.Pe.Tryd
