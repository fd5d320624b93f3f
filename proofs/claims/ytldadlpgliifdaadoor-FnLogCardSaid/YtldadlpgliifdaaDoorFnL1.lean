/- The law FnLog, walked. -/
import Derived.Test.YtldadlpgliifdaaDoorW2
set_option maxRecDepth 100000
set_option maxHeartbeats 4000000
set_option linter.all false
namespace Go.Pe.Tryd
open Go.Proofs.Tryd
theorem vBig_fn (code : List UInt8) : Fn prog 29 [.sl false 1 (bytesD code)] (fun rs => rs = [.bool (decide ((65536 : Int) < (code.length : Int)))]) := by
  refine Fn_of' (fn := f29) (by exact func29) c29 r29 (n := 6) (by rfl) (rv := [.tmp 2]) (by rfl) (by simp) ?_
  unfold m29
  repeat' (first
      | (simp only [bytesD_len, ↓wA, ↓wC, wB, frzBE, frzBS, Nat.reduceEqDiff, Nat.reduceAdd, Nat.reduceSub, reduceIte, reduceCtorEq, Nat.reduceBEq, Nat.reduceLT, decide_true])
      | (refine execG_split (fun h => ?_) (fun h => ?_) <;> simp only [h])
      | (refine execC_split (fun h => ?_) (fun h => ?_) <;> (try simp only [h]))
      | (refine onPick_split (fun h => ?_) (fun h => ?_) <;> (try simp only [h])))
theorem fnLog_fn (code : List UInt8) : Fn prog 9 [.sl false 1 (bytesD code)] (fun rs => rs = [.bool true]) := by
  have hB := vBig_fn code
  cases hb : decide ((65536 : Int) < (code.length : Int)) with
  | true =>
    rw [hb] at hB
    refine Fn_of' (fn := f9) (by exact func9) c9 r9 (n := 154) (by rfl) (rv := [.tmp 2]) (by rfl) (by simp) ?_
    unfold m9
    repeat' (first
        | (simp only [↓wA, ↓wC, wB, frzBE, frzBS, Nat.reduceEqDiff, Nat.reduceAdd, Nat.reduceSub, reduceIte, reduceCtorEq, Nat.reduceBEq, Nat.reduceLT, decide_true])
        | (refine call_det (hB) rfl rfl ?_)
        | (refine callP_det (hB) rfl rfl ?_)
        | (refine execG_split (fun h => ?_) (fun h => ?_) <;> simp only [h])
        | (refine execC_split (fun h => ?_) (fun h => ?_) <;> (try simp only [h]))
        | (refine onPick_split (fun h => ?_) (fun h => ?_) <;> (try simp only [h])))
  | false =>
    rw [hb] at hB
    have hc : code.length ≤ 1048576 := by have := of_decide_eq_false hb; omega
    refine Fn_of' (fn := f9) (by exact func9) c9 r9 (n := 154) (by rfl) (rv := [.tmp 2]) (by rfl) (by simp) ?_
    unfold m9
    repeat' (first
        | (simp only [↓wA, ↓wC, wB, frzBE, frzBS, Nat.reduceEqDiff, Nat.reduceAdd, Nat.reduceSub, reduceIte, reduceCtorEq, Nat.reduceBEq, Nat.reduceLT, decide_true])
        | (refine call_det (hB) rfl rfl ?_)
        | (refine callP_det (hB) rfl rfl ?_)
        | (refine execG_split (fun h => ?_) (fun h => ?_) <;> simp only [h])
        | (refine execC_split (fun h => ?_) (fun h => ?_) <;> (try simp only [h]))
        | (refine onPick_split (fun h => ?_) (fun h => ?_) <;> (try simp only [h])))
    refine call_rel (drawAppend_fn code hc) rfl fun rs h => ?_
    obtain ⟨d, p, k, c, r, rfl, hl, hcl, hrl⟩ := h
    refine ⟨.inl rfl, ?_⟩
    have m1 : c.length ≤ maxLen := by rw [maxLen_eq]; omega
    have m2 : r.length ≤ maxLen := by rw [maxLen_eq]; omega
    have hI := implAppend_fn d p k c r (by omega) m1 m2
    have hS := specAppend_fn d p k c r (by omega) m1 m2
    have hV := isValidLog_fn d p k (by omega)
    have hW := l27Log_fn d p k (by omega)
    have hVS := specIsValid_fn d p k (by omega)
    have hR := isValidRecord_fn c r m1 m2
    have hRS := specIsValidRecord_fn c r m1 m2
    by_cases hok : lv d p k = true ∧ recOK c r = true ∧ k ≠ 60
    · obtain ⟨hv, hrec, h60⟩ := hok
      have hap : appR d p k c r = [logD d (p ++ (line k c r ++ [10])) (k + 1), .int .i64 0] := by
        unfold appR
        rw [if_pos ⟨hv, hrec⟩, if_neg h60]
      rw [hap] at hI hS
      obtain ⟨hv2, hrs⟩ := lv_app hv h60 hrec
      have hk := lv_count hv
      have hsh := lv_short hv2
      have hlen2 : d.length + (p ++ (line k c r ++ [10])).length ≤ 30000 := hsh
      have hL1 := implLogRecords_fn d (p ++ (line k c r ++ [10])) (k + 1) (by omega)
      have hL0 := implLogRecords_fn d p k (by omega)
      have hV2 := isValidLog_fn d (p ++ (line k c r ++ [10])) (k + 1) (by omega)
      have hRec := implRecover_fn (d ++ (p ++ (line k c r ++ [10]))) (by rw [List.length_append]; omega)
      have hSy := implSync_fn d (p ++ (line k c r ++ [10])) (k + 1) (by omega)
      have hx := hv2
      simp only [lv, Bool.and_eq_true, decide_eq_true_eq] at hx
      obtain ⟨⟨hx1, hx2⟩, hx3⟩ := hx
      have hrc : recov (d ++ (p ++ (line k c r ++ [10]))) = [logD (d ++ (p ++ (line k c r ++ [10]))) [] (k + 1), .int .i64 ((d ++ (p ++ (line k c r ++ [10]))).length : Nat), .bool true] := by
        unfold recov
        rw [if_pos (by rw [List.length_append]; omega), hx3]
        have e1 : (opens 60 0 (d ++ (p ++ (line k c r ++ [10])))).2 = (d ++ (p ++ (line k c r ++ [10]))).length := by omega
        rw [e1, List.take_length]
      have hsy : syncR d (p ++ (line k c r ++ [10])) (k + 1) = [logD (d ++ (p ++ (line k c r ++ [10]))) [] (k + 1), .bool true] := by
        unfold syncR
        rw [if_pos hv2]
      rw [hrc] at hRec
      rw [hsy] at hSy
      rw [hv2] at hL1 hV2
      rw [hv] at hL0 hV hW hVS
      rw [hrec] at hR hRS
      have hq1 : logR d (p ++ (line k c r ++ [10])) (k + 1) = recsOf d p ++ [(c, r)] := by
        unfold logR; rw [if_pos hv2, hrs]
      have hq0 : logR d p k = recsOf d p := by
        unfold logR; rw [if_pos hv]
      rw [hq1] at hL1
      rw [hq0] at hL0
      have hk3 : ((recsOf d p ++ [(c, r)]).length : Int) = k + 1 := by rw [← hrs]; exact hx3.symm
      have hlenL : ((recsOf d p).length : Int) = k := by
        simp only [List.length_append, List.length_singleton] at hk3
        omega
      generalize recsOf d p = L at *
      generalize hP : p ++ (line k c r ++ [10]) = P at *
      simp only [logD, recD]  at hI hS hV hW hVS hR hRS hL1 hL0 hV2 hRec hSy ⊢
      have hc1 : ((L.length + 1 : Nat) : Int) = k + 1 := by omega
      repeat' (first
          | (simp only [onC_true, dl_len, hc1, hlenL, decide_true, ↓wA, ↓wC, wB, frzBE, frzBS, Nat.reduceEqDiff, Nat.reduceAdd, Nat.reduceSub, reduceIte, reduceCtorEq, Nat.reduceBEq, Nat.reduceLT, decide_true])
          | (refine call_det (hI) rfl rfl ?_)
          | (refine callP_det (hI) rfl rfl ?_)
          | (refine call_det (hS) rfl rfl ?_)
          | (refine callP_det (hS) rfl rfl ?_)
          | (refine call_det (hV) rfl rfl ?_)
          | (refine callP_det (hV) rfl rfl ?_)
          | (refine call_det (hVS) rfl rfl ?_)
          | (refine callP_det (hVS) rfl rfl ?_)
          | (refine call_det (hR) rfl rfl ?_)
          | (refine callP_det (hR) rfl rfl ?_)
          | (refine call_det (hRS) rfl rfl ?_)
          | (refine callP_det (hRS) rfl rfl ?_)
          | (refine call_det (hL1) rfl rfl ?_)
          | (refine callP_det (hL1) rfl rfl ?_)
          | (refine call_det (hL0) rfl rfl ?_)
          | (refine callP_det (hL0) rfl rfl ?_)
          | (refine call_det (hRec) rfl rfl ?_)
          | (refine callP_det (hRec) rfl rfl ?_)
          | (refine call_det (hSy) rfl rfl ?_)
          | (refine callP_det (hSy) rfl rfl ?_)
          | (with_reducible refine onC_i ?_ ?_; focus omega)
          | (with_reducible refine onI_bare ?_ ?_; focus (simp only [InR]; omega))
          | (refine execG_split (fun h => ?_) (fun h => ?_) <;> simp only [h])
          | (refine execC_split (fun h => ?_) (fun h => ?_) <;> (try simp only [h]))
          | (refine onPick_split (fun h => ?_) (fun h => ?_) <;> (try simp only [h])))
      refine exec_range L.length (fun i : Nat => ⟨[(4, .ptr 1 0 []), (5, .ptr 2 0 []), (9, .own 4), (11, .own 5), (13, .ptr 6 0 []), (14, .d (.int .i64 ((d.length + P.length : Nat) : Int))), (15, .d (.bool true)), (16, .ptr 7 0 []), (17, .d (.bool true)), (18, .d (.int .i64 i))],
        [.box (logD d p k), .box (recD c r), .box (logD d P (k + 1)), .box (logD d P (k + 1)), .val (.sl true 2 (dl recE (L ++ [(c, r)]))), .val (.sl true 2 (dl recE L)), .box (logD (d ++ P) [] (k + 1)), .box (logD (d ++ P) [] (k + 1))]⟩) (fun _ => True) (weak_of _ rfl ⟨⟨rfl, rfl⟩, ⟨rfl, rfl⟩, ⟨rfl, rfl⟩, ⟨rfl, rfl⟩, ⟨rfl, rfl⟩, ⟨rfl, rfl⟩, ⟨rfl, rfl⟩, ⟨rfl, rfl⟩, ⟨rfl, rfl⟩, ⟨rfl, rfl⟩, trivial⟩) trivial ?_ ?_
      · intro i hi _ hd h0
        obtain ⟨e, he⟩ := get_lt hi
        have he2 : (L ++ [(c, r)])[i]? = some e := by rw [List.getElem?_append_left hi]; exact he
        simp only [logD, recD]
        repeat' (first
            | (simp only [onC_true, dl_len, dl_nth, hd, h0, he, he2, Int.toNat_natCast, Option.map_some, recE, decide_true, ↓wA, ↓wC, wB, frzBE, frzBS, Nat.reduceEqDiff, Nat.reduceAdd, Nat.reduceSub, reduceIte, reduceCtorEq, Nat.reduceBEq, Nat.reduceLT, decide_true])
            | (with_reducible refine onI_bare ?_ ?_; focus (simp only [InR]; omega))
            | (refine execG_split (fun h => ?_) (fun h => ?_) <;> simp only [h])
            | (refine execC_split (fun h => ?_) (fun h => ?_) <;> (try simp only [h]))
            | (refine onPick_split (fun h => ?_) (fun h => ?_) <;> (try simp only [h])))
        all_goals exact ⟨i + 1, (weak_of _ rfl ⟨⟨rfl, rfl⟩, ⟨rfl, rfl⟩, ⟨rfl, rfl⟩, ⟨rfl, rfl⟩, ⟨rfl, rfl⟩, ⟨rfl, rfl⟩, ⟨rfl, rfl⟩, ⟨rfl, rfl⟩, ⟨rfl, rfl⟩, ⟨rfl, rfl⟩, trivial⟩), by omega, by omega⟩
      · intro _ hd
        have he2 : (L ++ [(c, r)])[L.length]? = some (c, r) := by simp
        have h0 : (0 : Int) ≤ (L.length : Int) := by omega
        simp only [logD, recD]
        repeat' (first
            | (simp only [onC_true, dl_len, dl_nth, hd, h0, he2, Int.toNat_natCast, Option.map_some, recE, decide_true, ↓wA, ↓wC, wB, frzBE, frzBS, Nat.reduceEqDiff, Nat.reduceAdd, Nat.reduceSub, reduceIte, reduceCtorEq, Nat.reduceBEq, Nat.reduceLT, decide_true])
            | (refine call_det (hV2) rfl rfl ?_)
            | (refine callP_det (hV2) rfl rfl ?_)
            | (with_reducible refine onC_i ?_ ?_; focus omega)
            | (with_reducible refine onI_bare ?_ ?_; focus (simp only [InR]; omega))
            | (refine execG_split (fun h => ?_) (fun h => ?_) <;> simp only [h])
            | (refine execC_split (fun h => ?_) (fun h => ?_) <;> (try simp only [h]))
            | (refine onPick_split (fun h => ?_) (fun h => ?_) <;> (try simp only [h])))
        all_goals trace_state
    · have key : ∃ t : Int, t ≠ 0 ∧ appR d p k c r = [logD d p k, .int .i64 t] := by
        unfold appR
        by_cases h1 : lv d p k = true ∧ recOK c r = true
        · by_cases h2 : k = 60
          · exact ⟨2, by decide, by rw [if_pos h1, if_pos h2]⟩
          · exact absurd ⟨h1.1, h1.2, h2⟩ hok
        · exact ⟨1, by decide, by rw [if_neg h1]⟩
      obtain ⟨t, ht, hap⟩ := key
      rw [hap] at hI hS
      have hd0 : decide (t = 0) = false := decide_eq_false ht
      generalize lv d p k = b1 at *
      generalize recOK c r = b2 at *
      have hb1 : (b1 == b1) = true := by cases b1 <;> rfl
      have hb2 : (b2 == b2) = true := by cases b2 <;> rfl
      simp only [logD, recD] at hI hS hV hW hVS hR hRS ⊢
      repeat' (first
          | (simp only [onC_true, decide_true, hd0, hb1, hb2, ↓wA, ↓wC, wB, frzBE, frzBS, Nat.reduceEqDiff, Nat.reduceAdd, Nat.reduceSub, reduceIte, reduceCtorEq, Nat.reduceBEq, Nat.reduceLT, decide_true])
          | (refine call_det (hI) rfl rfl ?_)
          | (refine callP_det (hI) rfl rfl ?_)
          | (refine call_det (hS) rfl rfl ?_)
          | (refine callP_det (hS) rfl rfl ?_)
          | (refine call_det (hV) rfl rfl ?_)
          | (refine callP_det (hV) rfl rfl ?_)
          | (refine call_det (hVS) rfl rfl ?_)
          | (refine callP_det (hVS) rfl rfl ?_)
          | (refine call_det (hR) rfl rfl ?_)
          | (refine callP_det (hR) rfl rfl ?_)
          | (refine call_det (hRS) rfl rfl ?_)
          | (refine callP_det (hRS) rfl rfl ?_)
          | (refine execG_split (fun h => ?_) (fun h => ?_) <;> simp only [h])
          | (refine execC_split (fun h => ?_) (fun h => ?_) <;> (try simp only [h]))
          | (refine onPick_split (fun h => ?_) (fun h => ?_) <;> (try simp only [h])))
      all_goals trace_state
theorem byte_of (x : D) (h : Typed (.int .u8) x) : ∃ b : UInt8, x = .int .u8 (b.toNat : Int) ∧ True := by
  obtain ⟨n, rfl, hn⟩ := h
  have hr : 0 ≤ n ∧ n ≤ 255 := by
    simp only [Lit.wf, Bool.and_eq_true, decide_eq_true_eq] at hn
    exact hn
  refine ⟨UInt8.ofNat n.toNat, ?_, trivial⟩
  have : (UInt8.ofNat n.toNat).toNat = n.toNat := by
    rw [UInt8.toNat_ofNat']
    omega
  rw [this, Int.toNat_of_nonneg hr.1]
theorem bytes_of (x : D) (h : Typed (.sl 1 (.int .u8)) x) : ∃ code : List UInt8, x = .sl false 1 (bytesD code) := by
  obtain ⟨ds, rfl, h1, h2⟩ := h
  obtain ⟨ys, h3, _, _⟩ := typed_list (f := fun b : UInt8 => D.int .u8 (b.toNat : Int)) (P := fun _ => True) byte_of ds h2
  exact ⟨ys, by rw [h3, bytesD_dl]⟩
theorem lawFnLog (x0 : D) (h0 : Typed (.sl 1 (.int .u8)) x0) : Fn prog 9 [x0] (fun rs => rs = [.bool true]) := by
  obtain ⟨code, rfl⟩ := bytes_of x0 h0
  exact fnLog_fn code
end Go.Pe.Tryd
