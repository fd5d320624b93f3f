/- The law FnCrashRecovery, walked. -/
import Derived.Test.YtldadlpgliifdaaDoorW2
set_option maxRecDepth 100000
set_option maxHeartbeats 4000000
set_option linter.all false
namespace Go.Pe.Tryd
open Go.Proofs.Tryd
theorem fnCrashRecovery_fn (code : List UInt8) : Fn prog 10 [.sl false 1 (bytesD code)] (fun rs => rs = [.bool true]) := by
  have hB := vBig_fn code
  cases hb : decide ((65536 : Int) < (code.length : Int)) with
  | true =>
    rw [hb] at hB
    refine Fn_of' (fn := f10) (by exact func10) c10 r10 (n := 115) (by rfl) (rv := [.tmp 2]) (by rfl) (by simp) ?_
    unfold m10
    repeat' (first
        | (simp only [↓wA, ↓wC, wB, frzBE, frzBS, Nat.reduceEqDiff, Nat.reduceAdd, Nat.reduceSub, reduceIte, reduceCtorEq, Nat.reduceBEq, Nat.reduceLT, decide_true])
        | (refine call_det (hB) rfl rfl ?_)
        | (refine callP_det (hB) rfl rfl ?_)
        | (refine execG_split (fun h => ?_) (fun h => ?_) <;> simp only [h])
        | (refine execC_split (fun h => ?_) (fun h => ?_) <;> (try simp only [h]))
        | (refine onPick_split (fun h => ?_) (fun h => ?_) <;> (try simp only [h])))
  | false =>
    rw [hb] at hB
    have hc : code.length ≤ 1048576 := by have := of_decide_eq_false hb; omega
    refine Fn_of' (fn := f10) (by exact func10) c10 r10 (n := 115) (by rfl) (rv := [.tmp 2]) (by rfl) (by simp) ?_
    unfold m10
    repeat' (first
        | (simp only [↓wA, ↓wC, wB, frzBE, frzBS, Nat.reduceEqDiff, Nat.reduceAdd, Nat.reduceSub, reduceIte, reduceCtorEq, Nat.reduceBEq, Nat.reduceLT, decide_true])
        | (refine call_det (hB) rfl rfl ?_)
        | (refine callP_det (hB) rfl rfl ?_)
        | (refine execG_split (fun h => ?_) (fun h => ?_) <;> simp only [h])
        | (refine execC_split (fun h => ?_) (fun h => ?_) <;> (try simp only [h]))
        | (refine onPick_split (fun h => ?_) (fun h => ?_) <;> (try simp only [h])))
    refine call_rel (drawCrash_fn code hc) rfl fun rs h => ?_
    obtain ⟨d, p, k, n, t, rfl, hl⟩ := h
    refine ⟨.inl rfl, ?_⟩
    have hI := implCrash_fn d p k n t (by omega)
    have hS := specCrash_fn d p k n t (by omega)
    by_cases hok : lv d p k = true ∧ within n 0 p.length = true
    · obtain ⟨hv, hw⟩ := hok
      have hcr : crashR d p k n t = [.str (d ++ tear t (p.take n.toNat)), .bool true] := if_pos ⟨hv, hw⟩
      rw [hcr] at hI hS
      simp only [within, Bool.and_eq_true, decide_eq_true_eq] at hw
      have hsh := lv_short hv
      have hlaw := crash_law hv t n.toNat (by omega)
      have htl := tear_len t (p.take n.toNat)
      rw [List.length_take] at htl
      have hsl : (d ++ tear t (p.take n.toNat)).length ≤ 30000 := by rw [List.length_append]; omega
      generalize d ++ tear t (p.take n.toNat) = s at *
      obtain ⟨hl1, i, hl2⟩ := hlaw
      have hR := implRecover_fn s (by omega)
      have hle := opens_le 60 0 s
      have htk := opens_take 60 0 s
      have hlv := lv_recov s
      have hrs : recov s = [logD (s.take (opens 60 0 s).2) [] ((opens 60 0 s).1.length : Nat), .int .i64 ((opens 60 0 s).2 : Nat), .bool true] := if_pos hsl
      rw [hrs] at hR
      generalize hE : (opens 60 0 s).2 = e at *
      generalize hA : (opens 60 0 s).1 = A at *
      have hml : (s.take e).length ≤ 30000 := by rw [List.length_take]; omega
      have hL := implLogRecords_fn (s.take e) [] (A.length : Nat) (by simp only [List.length_nil]; omega)
      have hO := specLogRecords_fn d p k (by omega)
      have hV := isValidLog_fn (s.take e) [] (A.length : Nat) (by simp only [List.length_nil]; omega)
      have q1 : logR (s.take e) [] (A.length : Nat) = A := by
        unfold logR recsOf
        rw [if_pos hlv, List.append_nil, htk]
        exact hA
      have q2 : logR d p k = recsOf d p := by
        unfold logR; rw [if_pos hv]
      rw [q1, hlv] at hL
      rw [q2, hv] at hO
      rw [hlv] at hV
      have hpre : ∀ (j : Nat) (a : List UInt8 × List UInt8), A[j]? = some a → (recsOf d p)[j]? = some a := by
        intro j a ha
        rw [hl2, List.getElem?_take] at ha
        split at ha
        · exact ha
        · cases ha
      have hAl : A.length ≤ (recsOf d p).length := by rw [hl2, List.length_take]; omega
      have hOl : (recsOf d p).length ≤ 60 := (opens_le 60 0 (d ++ p)).2
      generalize recsOf d p = L at *
      have e1 : decide ((s.length : Int) < (e : Int)) = false := decide_eq_false (by omega)
      have e2 : decide ((e : Int) < (d.length : Int)) = false := decide_eq_false (by omega)
      have e3 : decide ((L.length : Int) < (A.length : Int)) = false := decide_eq_false (by omega)
      simp only [logD] at hI hS hR hL hO hV ⊢
      repeat' (first
          | (simp only [onC_true, decide_true, dl_len, e1, e2, e3, ↓wA, ↓wC, wB, frzBE, frzBS, Nat.reduceEqDiff, Nat.reduceAdd, Nat.reduceSub, reduceIte, reduceCtorEq, Nat.reduceBEq, Nat.reduceLT, decide_true])
          | (refine call_det (hI) rfl rfl ?_)
          | (refine callP_det (hI) rfl rfl ?_)
          | (refine call_det (hS) rfl rfl ?_)
          | (refine callP_det (hS) rfl rfl ?_)
          | (refine call_det (hR) rfl rfl ?_)
          | (refine callP_det (hR) rfl rfl ?_)
          | (refine call_det (hL) rfl rfl ?_)
          | (refine callP_det (hL) rfl rfl ?_)
          | (refine call_det (hO) rfl rfl ?_)
          | (refine callP_det (hO) rfl rfl ?_)
          | (refine call_det (hV) rfl rfl ?_)
          | (refine callP_det (hV) rfl rfl ?_)
          | (refine execG_split (fun h => ?_) (fun h => ?_) <;> simp only [h])
          | (refine execC_split (fun h => ?_) (fun h => ?_) <;> (try simp only [h]))
          | (refine onPick_split (fun h => ?_) (fun h => ?_) <;> (try simp only [h])))
      all_goals
        refine exec_range A.length (fun i : Nat => ⟨[(6, .d (.str s)), (10, .ptr 1 0 []), (11, .d (.int .i64 (e : Nat))), (13, .own 2), (15, .own 3), (17, .d (.int .i64 i))],
          [.box (logD d p k), .box (logD (s.take e) [] (A.length : Nat)), .val (.sl true 2 (dl recE A)), .val (.sl true 2 (dl recE L))]⟩) (fun _ => True) (weak_of _ rfl ⟨⟨rfl, rfl⟩, ⟨rfl, rfl⟩, ⟨rfl, rfl⟩, ⟨rfl, rfl⟩, ⟨rfl, rfl⟩, ⟨rfl, rfl⟩, trivial⟩) trivial ?_ ?_
        · intro i hi _ hd h0
          obtain ⟨a, ha⟩ := get_lt hi
          have ha2 := hpre i a ha
          simp only [logD]
          repeat' (first
              | (simp only [onC_true, dl_len, dl_nth, hd, h0, ha, ha2, Int.toNat_natCast, Option.map_some, recE, decide_true, ↓wA, ↓wC, wB, frzBE, frzBS, Nat.reduceEqDiff, Nat.reduceAdd, Nat.reduceSub, reduceIte, reduceCtorEq, Nat.reduceBEq, Nat.reduceLT, decide_true])
              | (with_reducible refine onI_bare ?_ ?_; focus (simp only [InR]; omega))
              | (refine execG_split (fun h => ?_) (fun h => ?_) <;> simp only [h])
              | (refine execC_split (fun h => ?_) (fun h => ?_) <;> (try simp only [h]))
              | (refine onPick_split (fun h => ?_) (fun h => ?_) <;> (try simp only [h])))
          all_goals exact ⟨i + 1, (weak_of _ rfl ⟨⟨rfl, rfl⟩, ⟨rfl, rfl⟩, ⟨rfl, rfl⟩, ⟨rfl, rfl⟩, ⟨rfl, rfl⟩, ⟨rfl, rfl⟩, trivial⟩), by omega, by omega⟩
        · intro _ hd
          simp only [logD]
          repeat' (first
              | (simp only [onC_true, dl_len, dl_nth, hd, Int.toNat_natCast, decide_true, ↓wA, ↓wC, wB, frzBE, frzBS, Nat.reduceEqDiff, Nat.reduceAdd, Nat.reduceSub, reduceIte, reduceCtorEq, Nat.reduceBEq, Nat.reduceLT, decide_true])
              | (refine call_det (hV) rfl rfl ?_)
              | (refine callP_det (hV) rfl rfl ?_)
              | (with_reducible refine onC_i ?_ ?_; focus omega)
              | (refine execG_split (fun h => ?_) (fun h => ?_) <;> simp only [h])
              | (refine execC_split (fun h => ?_) (fun h => ?_) <;> (try simp only [h]))
              | (refine onPick_split (fun h => ?_) (fun h => ?_) <;> (try simp only [h])))
          all_goals trace_state
    · have hcr : crashR d p k n t = [.str [], .bool false] := if_neg hok
      rw [hcr] at hI hS
      simp only [logD] at hI hS ⊢
      repeat' (first
          | (simp only [onC_true, decide_true, ↓wA, ↓wC, wB, frzBE, frzBS, Nat.reduceEqDiff, Nat.reduceAdd, Nat.reduceSub, reduceIte, reduceCtorEq, Nat.reduceBEq, Nat.reduceLT, decide_true])
          | (refine call_det (hI) rfl rfl ?_)
          | (refine callP_det (hI) rfl rfl ?_)
          | (refine call_det (hS) rfl rfl ?_)
          | (refine callP_det (hS) rfl rfl ?_)
          | (refine execG_split (fun h => ?_) (fun h => ?_) <;> simp only [h])
          | (refine execC_split (fun h => ?_) (fun h => ?_) <;> (try simp only [h]))
          | (refine onPick_split (fun h => ?_) (fun h => ?_) <;> (try simp only [h])))
      all_goals trace_state
theorem lawFnCrashRecovery (x0 : D) (h0 : Typed (.sl 1 (.int .u8)) x0) : Fn prog 10 [x0] (fun rs => rs = [.bool true]) := by
  obtain ⟨code, rfl⟩ := bytes_of x0 h0
  exact fnCrashRecovery_fn code
end Go.Pe.Tryd
