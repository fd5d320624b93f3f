/- The law of CrashLog: what of a log survives. -/
import Derived.Test.YtldadlpgliifdaaDoorW1
set_option maxRecDepth 100000
set_option maxHeartbeats 4000000
set_option linter.all false
namespace Go.Pe.Tryd
open Go.Proofs.Tryd Go.Sort
def byE (b : UInt8) : D := .int .u8 (b.toNat : Int)
theorem bytesDl (bs : List UInt8) : bytesD bs = dl byE bs := bytesD_dl bs
theorem byE_noOwn (bs : List UInt8) : (dl byE bs).noOwn = true := dl_noOwn (fun _ => rfl) bs
/-- the last byte of a text, torn. -/
def tear (t : Bool) (s : List UInt8) : List UInt8 := if t = true ∧ 0 < s.length then s.set (s.length - 1) (255 - s.getD (s.length - 1) 0) else s
def crashR (d p : List UInt8) (c n : Int) (t : Bool) : List D := if lv d p c = true ∧ within n 0 p.length = true then [.str (d ++ tear t (p.take n.toNat)), .bool true] else [.str [], .bool false]
theorem sub255 (b : UInt8) : (255 : Int) - (b.toNat : Int) = ((255 - b).toNat : Int) := by
  have h : b.toNat < 256 := b.toNat_lt
  have h2 : b ≤ 255 := by
    rw [UInt8.le_iff_toNat_le]
    show b.toNat ≤ 255
    omega
  rw [UInt8.toNat_sub_of_le _ _ h2]
  show (255 : Int) - (b.toNat : Int) = ((255 - b.toNat : Nat) : Int)
  omega
theorem dl_set (L : List UInt8) (i : Nat) (b : UInt8) : (dl byE L).setN i (.int .u8 (b.toNat : Int)) = dl byE (L.set i b) := dl_setN (f := byE) L i b
theorem implCrash_fn (d p : List UInt8) (c n : Int) (t : Bool) (hl : d.length + p.length ≤ 100000000) : Fn prog 28 [logD d p c, .int .i64 n, .bool t] (fun rs => rs = crashR d p c n t) := by
  have hV := isValidLog_fn d p c hl
  have hW := within_fn n 0 (p.length : Int)
  unfold crashR
  cases hv : lv d p c with
  | false =>
    rw [hv] at hV
    refine Fn_of' (fn := f28) (by exact func28) c28 r28 (n := 45) (by rfl) (rv := [.tmp 6, .tmp 7]) (by rfl) (by simp) ?_
    unfold m28
    simp only [logD] at hV ⊢
    repeat' (first
        | (simp only [↓wA, ↓wC, wB, frzBE, frzBS, Nat.reduceEqDiff, Nat.reduceAdd, Nat.reduceSub, reduceIte, reduceCtorEq, Nat.reduceBEq, Nat.reduceLT, decide_true])
        | (refine call_det (hV) rfl rfl ?_)
        | (refine callP_det (hV) rfl rfl ?_)
        | (refine execG_split (fun h => ?_) (fun h => ?_) <;> simp only [h])
        | (refine execC_split (fun h => ?_) (fun h => ?_) <;> (try simp only [h]))
        | (refine onPick_split (fun h => ?_) (fun h => ?_) <;> (try simp only [h])))
    all_goals rfl
  | true =>
    rw [hv] at hV
    cases hw : within n 0 (p.length : Int) with
    | false =>
      rw [hw] at hW
      refine Fn_of' (fn := f28) (by exact func28) c28 r28 (n := 45) (by rfl) (rv := [.tmp 6, .tmp 7]) (by rfl) (by simp) ?_
      unfold m28
      simp only [logD] at hV ⊢
      repeat' (first
          | (simp only [↓wA, ↓wC, wB, frzBE, frzBS, Nat.reduceEqDiff, Nat.reduceAdd, Nat.reduceSub, reduceIte, reduceCtorEq, Nat.reduceBEq, Nat.reduceLT, decide_true])
          | (refine call_det (hV) rfl rfl ?_)
          | (refine callP_det (hV) rfl rfl ?_)
          | (refine call_det (hW) rfl rfl ?_)
          | (refine callP_det (hW) rfl rfl ?_)
          | (refine execG_split (fun h => ?_) (fun h => ?_) <;> simp only [h])
          | (refine execC_split (fun h => ?_) (fun h => ?_) <;> (try simp only [h]))
          | (refine onPick_split (fun h => ?_) (fun h => ?_) <;> (try simp only [h])))
      all_goals rfl
    | true =>
      rw [hw] at hW
      simp only [within, Bool.and_eq_true, decide_eq_true_eq] at hw
      obtain ⟨m, rfl⟩ : ∃ m : Nat, n = m := ⟨n.toNat, by omega⟩
      have hm : m ≤ p.length := by omega
      have hpl : (p.take m).length = m := by rw [List.length_take]; omega
      rw [if_pos ⟨rfl, rfl⟩, Int.toNat_natCast]
      by_cases ht : t = true ∧ 0 < m
      · obtain ⟨rfl, h0⟩ := ht
        have hd0 : decide ((m : Int) > 0) = true := decide_eq_true (by omega)
        have hd0' : decide ((0 : Int) < (m : Int)) = true := decide_eq_true (by omega)
        obtain ⟨b, hb⟩ := get_lt (xs := p.take m) (i := m - 1) (by omega)
        have hi : ((m : Int) - 1).toNat = m - 1 := by omega
        have hfin : tear true (p.take m) = (p.take m).set (m - 1) (255 - b) := by
          unfold tear
          rw [hpl, if_pos ⟨rfl, h0⟩, List.getD_eq_getElem?_getD, hb]; rfl
        rw [hfin]
        have hfl : ((p.take m).set (m - 1) (255 - b)).length = m := by simp [hpl]
        have hu8 := (255 - b).toNat_lt
        refine Fn_of' (fn := f28) (by exact func28) c28 r28 (n := 45) (by rfl) (rv := [.tmp 6, .tmp 7]) (by rfl) (by simp) ?_
        unfold m28
        simp only [logD] at hV ⊢
        repeat' (first
            | (simp only [hd0, hd0', Int.toNat_natCast, byE, onC_true, bytesDl, dl_nth, hi, hb, Option.map_some, byE_noOwn, sub255, dl_set, ↓wA, ↓wC, wB, frzBE, frzBS, Nat.reduceEqDiff, Nat.reduceAdd, Nat.reduceSub, reduceIte, reduceCtorEq, Nat.reduceBEq, Nat.reduceLT, decide_true])
            | (refine call_det (hV) rfl rfl ?_)
            | (refine callP_det (hV) rfl rfl ?_)
            | (refine call_det (hW) rfl rfl ?_)
            | (refine callP_det (hW) rfl rfl ?_)
            | (refine b2s_own ((p.take m).set (m - 1) (255 - b)) (by rw [bytesDl]; rfl) ?_)
            | (with_reducible refine onC_i ?_ ?_; focus omega)
            | (with_reducible refine onI_bare ?_ ?_; focus (simp only [InR]; omega))
            | (refine execG_split (fun h => ?_) (fun h => ?_) <;> simp only [h])
            | (refine execC_split (fun h => ?_) (fun h => ?_) <;> (try simp only [h]))
            | (refine onPick_split (fun h => ?_) (fun h => ?_) <;> (try simp only [h])))
      · have hfin : tear t (p.take m) = p.take m := by
          unfold tear
          rw [hpl, if_neg ht]
        rw [hfin]
        cases t with
        | false =>
          refine Fn_of' (fn := f28) (by exact func28) c28 r28 (n := 45) (by rfl) (rv := [.tmp 6, .tmp 7]) (by rfl) (by simp) ?_
          unfold m28
          simp only [logD] at hV ⊢
          repeat' (first
              | (simp only [onC_true, Int.toNat_natCast, ↓wA, ↓wC, wB, frzBE, frzBS, Nat.reduceEqDiff, Nat.reduceAdd, Nat.reduceSub, reduceIte, reduceCtorEq, Nat.reduceBEq, Nat.reduceLT, decide_true])
              | (refine call_det (hV) rfl rfl ?_)
              | (refine callP_det (hV) rfl rfl ?_)
              | (refine call_det (hW) rfl rfl ?_)
              | (refine callP_det (hW) rfl rfl ?_)
              | (refine b2s_own (p.take m) rfl ?_)
              | (with_reducible refine onC_i ?_ ?_; focus omega)
              | (refine execG_split (fun h => ?_) (fun h => ?_) <;> simp only [h])
              | (refine execC_split (fun h => ?_) (fun h => ?_) <;> (try simp only [h]))
              | (refine onPick_split (fun h => ?_) (fun h => ?_) <;> (try simp only [h])))
        | true =>
          have hm0 : ¬ 0 < m := fun h => ht ⟨rfl, h⟩
          have hd0' : decide ((0 : Int) < (m : Int)) = false := decide_eq_false (by omega)
          refine Fn_of' (fn := f28) (by exact func28) c28 r28 (n := 45) (by rfl) (rv := [.tmp 6, .tmp 7]) (by rfl) (by simp) ?_
          unfold m28
          simp only [logD] at hV ⊢
          repeat' (first
              | (simp only [hd0', onC_true, Int.toNat_natCast, ↓wA, ↓wC, wB, frzBE, frzBS, Nat.reduceEqDiff, Nat.reduceAdd, Nat.reduceSub, reduceIte, reduceCtorEq, Nat.reduceBEq, Nat.reduceLT, decide_true])
              | (refine call_det (hV) rfl rfl ?_)
              | (refine callP_det (hV) rfl rfl ?_)
              | (refine call_det (hW) rfl rfl ?_)
              | (refine callP_det (hW) rfl rfl ?_)
              | (refine b2s_own (p.take m) rfl ?_)
              | (with_reducible refine onC_i ?_ ?_; focus omega)
              | (refine execG_split (fun h => ?_) (fun h => ?_) <;> simp only [h])
              | (refine execC_split (fun h => ?_) (fun h => ?_) <;> (try simp only [h]))
              | (refine onPick_split (fun h => ?_) (fun h => ?_) <;> (try simp only [h])))
theorem specCrash_fn (d p : List UInt8) (c n : Int) (t : Bool) (hl : d.length + p.length ≤ 100000000) : Fn prog 27 [logD d p c, .int .i64 n, .bool t] (fun rs => rs = crashR d p c n t) := by
  have hV := l27Log_fn d p c hl
  have hW := l1In_fn n 0 (p.length : Int)
  unfold crashR
  cases hv : lv d p c with
  | false =>
    rw [hv] at hV
    refine Fn_of' (fn := f27) (by exact func27) c27 r27 (n := 45) (by rfl) (rv := [.tmp 6, .tmp 7]) (by rfl) (by simp) ?_
    unfold m27
    simp only [logD] at hV ⊢
    repeat' (first
        | (simp only [↓wA, ↓wC, wB, frzBE, frzBS, Nat.reduceEqDiff, Nat.reduceAdd, Nat.reduceSub, reduceIte, reduceCtorEq, Nat.reduceBEq, Nat.reduceLT, decide_true])
        | (refine call_det (hV) rfl rfl ?_)
        | (refine callP_det (hV) rfl rfl ?_)
        | (refine execG_split (fun h => ?_) (fun h => ?_) <;> simp only [h])
        | (refine execC_split (fun h => ?_) (fun h => ?_) <;> (try simp only [h]))
        | (refine onPick_split (fun h => ?_) (fun h => ?_) <;> (try simp only [h])))
    all_goals rfl
  | true =>
    rw [hv] at hV
    cases hw : within n 0 (p.length : Int) with
    | false =>
      rw [hw] at hW
      refine Fn_of' (fn := f27) (by exact func27) c27 r27 (n := 45) (by rfl) (rv := [.tmp 6, .tmp 7]) (by rfl) (by simp) ?_
      unfold m27
      simp only [logD] at hV ⊢
      repeat' (first
          | (simp only [↓wA, ↓wC, wB, frzBE, frzBS, Nat.reduceEqDiff, Nat.reduceAdd, Nat.reduceSub, reduceIte, reduceCtorEq, Nat.reduceBEq, Nat.reduceLT, decide_true])
          | (refine call_det (hV) rfl rfl ?_)
          | (refine callP_det (hV) rfl rfl ?_)
          | (refine call_det (hW) rfl rfl ?_)
          | (refine callP_det (hW) rfl rfl ?_)
          | (refine execG_split (fun h => ?_) (fun h => ?_) <;> simp only [h])
          | (refine execC_split (fun h => ?_) (fun h => ?_) <;> (try simp only [h]))
          | (refine onPick_split (fun h => ?_) (fun h => ?_) <;> (try simp only [h])))
      all_goals rfl
    | true =>
      rw [hw] at hW
      simp only [within, Bool.and_eq_true, decide_eq_true_eq] at hw
      obtain ⟨m, rfl⟩ : ∃ m : Nat, n = m := ⟨n.toNat, by omega⟩
      have hm : m ≤ p.length := by omega
      have hpl : (p.take m).length = m := by rw [List.length_take]; omega
      rw [if_pos ⟨rfl, rfl⟩, Int.toNat_natCast]
      by_cases ht : t = true ∧ 0 < m
      · obtain ⟨rfl, h0⟩ := ht
        have hd0 : decide ((m : Int) > 0) = true := decide_eq_true (by omega)
        have hd0' : decide ((0 : Int) < (m : Int)) = true := decide_eq_true (by omega)
        obtain ⟨b, hb⟩ := get_lt (xs := p.take m) (i := m - 1) (by omega)
        have hi : ((m : Int) - 1).toNat = m - 1 := by omega
        have hfin : tear true (p.take m) = (p.take m).set (m - 1) (255 - b) := by
          unfold tear
          rw [hpl, if_pos ⟨rfl, h0⟩, List.getD_eq_getElem?_getD, hb]; rfl
        rw [hfin]
        have hfl : ((p.take m).set (m - 1) (255 - b)).length = m := by simp [hpl]
        have hu8 := (255 - b).toNat_lt
        refine Fn_of' (fn := f27) (by exact func27) c27 r27 (n := 45) (by rfl) (rv := [.tmp 6, .tmp 7]) (by rfl) (by simp) ?_
        unfold m27
        simp only [logD] at hV ⊢
        repeat' (first
            | (simp only [hd0, hd0', Int.toNat_natCast, byE, onC_true, bytesDl, dl_nth, hi, hb, Option.map_some, byE_noOwn, sub255, dl_set, ↓wA, ↓wC, wB, frzBE, frzBS, Nat.reduceEqDiff, Nat.reduceAdd, Nat.reduceSub, reduceIte, reduceCtorEq, Nat.reduceBEq, Nat.reduceLT, decide_true])
            | (refine call_det (hV) rfl rfl ?_)
            | (refine callP_det (hV) rfl rfl ?_)
            | (refine call_det (hW) rfl rfl ?_)
            | (refine callP_det (hW) rfl rfl ?_)
            | (refine b2s_own ((p.take m).set (m - 1) (255 - b)) (by rw [bytesDl]; rfl) ?_)
            | (with_reducible refine onC_i ?_ ?_; focus omega)
            | (with_reducible refine onI_bare ?_ ?_; focus (simp only [InR]; omega))
            | (refine execG_split (fun h => ?_) (fun h => ?_) <;> simp only [h])
            | (refine execC_split (fun h => ?_) (fun h => ?_) <;> (try simp only [h]))
            | (refine onPick_split (fun h => ?_) (fun h => ?_) <;> (try simp only [h])))
      · have hfin : tear t (p.take m) = p.take m := by
          unfold tear
          rw [hpl, if_neg ht]
        rw [hfin]
        cases t with
        | false =>
          refine Fn_of' (fn := f27) (by exact func27) c27 r27 (n := 45) (by rfl) (rv := [.tmp 6, .tmp 7]) (by rfl) (by simp) ?_
          unfold m27
          simp only [logD] at hV ⊢
          repeat' (first
              | (simp only [onC_true, Int.toNat_natCast, ↓wA, ↓wC, wB, frzBE, frzBS, Nat.reduceEqDiff, Nat.reduceAdd, Nat.reduceSub, reduceIte, reduceCtorEq, Nat.reduceBEq, Nat.reduceLT, decide_true])
              | (refine call_det (hV) rfl rfl ?_)
              | (refine callP_det (hV) rfl rfl ?_)
              | (refine call_det (hW) rfl rfl ?_)
              | (refine callP_det (hW) rfl rfl ?_)
              | (refine b2s_own (p.take m) rfl ?_)
              | (with_reducible refine onC_i ?_ ?_; focus omega)
              | (refine execG_split (fun h => ?_) (fun h => ?_) <;> simp only [h])
              | (refine execC_split (fun h => ?_) (fun h => ?_) <;> (try simp only [h]))
              | (refine onPick_split (fun h => ?_) (fun h => ?_) <;> (try simp only [h])))
        | true =>
          have hm0 : ¬ 0 < m := fun h => ht ⟨rfl, h⟩
          have hd0' : decide ((0 : Int) < (m : Int)) = false := decide_eq_false (by omega)
          refine Fn_of' (fn := f27) (by exact func27) c27 r27 (n := 45) (by rfl) (rv := [.tmp 6, .tmp 7]) (by rfl) (by simp) ?_
          unfold m27
          simp only [logD] at hV ⊢
          repeat' (first
              | (simp only [hd0', onC_true, Int.toNat_natCast, ↓wA, ↓wC, wB, frzBE, frzBS, Nat.reduceEqDiff, Nat.reduceAdd, Nat.reduceSub, reduceIte, reduceCtorEq, Nat.reduceBEq, Nat.reduceLT, decide_true])
              | (refine call_det (hV) rfl rfl ?_)
              | (refine callP_det (hV) rfl rfl ?_)
              | (refine call_det (hW) rfl rfl ?_)
              | (refine callP_det (hW) rfl rfl ?_)
              | (refine b2s_own (p.take m) rfl ?_)
              | (with_reducible refine onC_i ?_ ?_; focus omega)
              | (refine execG_split (fun h => ?_) (fun h => ?_) <;> simp only [h])
              | (refine execC_split (fun h => ?_) (fun h => ?_) <;> (try simp only [h]))
              | (refine onPick_split (fun h => ?_) (fun h => ?_) <;> (try simp only [h])))
theorem crashR_form (d p : List UInt8) (c n : Int) (t : Bool) : ∃ s b, crashR d p c n t = [.str s, .bool b] := by
  unfold crashR
  split
  · exact ⟨_, _, rfl⟩
  · exact ⟨_, _, rfl⟩
theorem lawCrash_fn (d p : List UInt8) (c n : Int) (t : Bool) (hd : d.length ≤ maxLen) (hp : p.length ≤ maxLen) : Fn prog 7 [logD d p c, .int .i64 n, .bool t] (fun rs => rs = [.bool true]) := by
  have hz := szLog_fn d p c hd hp
  have ht := toLog_fn d p c
  by_cases h : szL2 d p 1048576 < 0
  · have hdz : decide (szL2 d p 1048576 < 0) = true := decide_eq_true h
    refine Fn_of' (fn := f7) (by exact func7) c7 r7 (n := 41) (by rfl) (rv := [.tmp 6]) (by rfl) (by simp) ?_
    unfold m7
    simp only [logD] at hz ht ⊢
    repeat' (first
        | (simp only [hdz, ↓wA, ↓wC, wB, frzBE, frzBS, Nat.reduceEqDiff, Nat.reduceAdd, Nat.reduceSub, reduceIte, reduceCtorEq, Nat.reduceBEq, Nat.reduceLT, decide_true])
        | (refine call_det (hz) rfl rfl ?_)
        | (refine callP_det (hz) rfl rfl ?_)
        | (refine execG_split (fun h => ?_) (fun h => ?_) <;> simp only [h])
        | (refine execC_split (fun h => ?_) (fun h => ?_) <;> (try simp only [h]))
        | (refine onPick_split (fun h => ?_) (fun h => ?_) <;> (try simp only [h])))
  · have hdz : decide (szL2 d p 1048576 < 0) = false := decide_eq_false h
    have hl := szL2_ok h
    have hS := specCrash_fn d p c n t (by omega)
    have hI := implCrash_fn d p c n t (by omega)
    obtain ⟨s, b, e⟩ := crashR_form d p c n t
    rw [e] at hS hI
    refine Fn_of' (fn := f7) (by exact func7) c7 r7 (n := 41) (by rfl) (rv := [.tmp 6]) (by rfl) (by simp) ?_
    unfold m7
    simp only [logD] at hz ht hS hI ⊢
    repeat' (first
        | (simp only [hdz, decide_true, ↓wA, ↓wC, wB, frzBE, frzBS, Nat.reduceEqDiff, Nat.reduceAdd, Nat.reduceSub, reduceIte, reduceCtorEq, Nat.reduceBEq, Nat.reduceLT, decide_true])
        | (refine call_det (hz) rfl rfl ?_)
        | (refine callP_det (hz) rfl rfl ?_)
        | (refine call_det (ht) rfl rfl ?_)
        | (refine callP_det (ht) rfl rfl ?_)
        | (refine call_det (hS) rfl rfl ?_)
        | (refine callP_det (hS) rfl rfl ?_)
        | (refine call_det (hI) rfl rfl ?_)
        | (refine callP_det (hI) rfl rfl ?_)
        | (refine execG_split (fun h => ?_) (fun h => ?_) <;> simp only [h])
        | (refine execC_split (fun h => ?_) (fun h => ?_) <;> (try simp only [h]))
        | (refine onPick_split (fun h => ?_) (fun h => ?_) <;> (try simp only [h])))
    all_goals simp_all
theorem lawCrash (x0 x1 x2 : D) (h0 : Typed logSh x0) (h1 : Typed (.int .i64) x1) (h2 : Typed .bool x2) : Fn prog 7 [x0, x1, x2] (fun rs => rs = [.bool true]) := by
  obtain ⟨_, rfl, _, _, rfl, ⟨d, rfl, hd⟩, _, _, rfl, ⟨p, rfl, hp⟩, _, _, rfl, ⟨c, rfl, _⟩, rfl⟩ := h0
  obtain ⟨n, rfl, _⟩ := h1
  obtain ⟨b, rfl⟩ := h2
  exact lawCrash_fn d p c n b hd hp
end Go.Pe.Tryd
