/- The law of LogRecords: marks on records. -/
import Derived.Test.YtldadlpgliifdaaDoorW1
set_option maxRecDepth 100000
set_option maxHeartbeats 4000000
set_option linter.all false
namespace Go.Pe.Tryd
open Go.Proofs.Tryd Go.Sort
/-- a mark, as text. -/
def mtx (k : Int) : List UInt8 := if k ≤ 0 then [109, 48] else 109 :: Lib.decDigits k.toNat
/-- the digits of a number, the last ones apart. -/
structure Digs (k : Int) (p : Int × List UInt8) : Prop where
  lo : 0 ≤ p.1
  hi : p.1 ≤ k
  len : p.2.length ≤ 21
  eq : Lib.decDigits k.toNat = if p.1 = 0 then p.2 else Lib.decDigits p.1.toNat ++ p.2
theorem Digs.start {k : Int} (h : 0 < k) : Digs k (k, []) := ⟨by show 0 ≤ k; omega, by show k ≤ k; omega, by simp, by simp only; rw [if_neg (by omega)]; simp⟩
theorem Digs.next {k : Int} {p : Int × List UInt8} (hk : k ≤ 1000000) (h : Digs k p) (hp : 0 < p.1) : Digs k (p.1 / 10, UInt8.ofNat (48 + (p.1 % 10).toNat) :: p.2) := by
  obtain ⟨n, s⟩ := p
  have h0 : (0 : Int) < n := hp
  obtain ⟨m, rfl⟩ := Int.eq_ofNat_of_zero_le (show (0 : Int) ≤ n by omega)
  have he := h.eq
  have hh := h.hi
  simp only at he hh ⊢
  rw [if_neg (by omega), Int.toNat_natCast] at he
  have hmd : ((m : Int) % 10).toNat = m % 10 := by omega
  have hdv : ((m : Int) / 10).toNat = m / 10 := by omega
  have key : Lib.decDigits k.toNat = if (m : Int) / 10 = 0 then UInt8.ofNat (48 + m % 10) :: s else Lib.decDigits (m / 10) ++ UInt8.ofNat (48 + m % 10) :: s := by
    rw [he]
    by_cases h10 : m < 10
    · rw [decDigits_small h10, if_pos (by omega), show m % 10 = m by omega]; rfl
    · rw [decDigits_more h10, if_neg (by omega)]; simp
  have hl := decDigits_le k.toNat (by omega)
  refine ⟨by show (0 : Int) ≤ (m : Int) / 10; omega, by show (m : Int) / 10 ≤ k; omega, ?_, by simp only [hmd, hdv]; exact key⟩
  rw [key] at hl
  simp only [hmd]
  split at hl
  · exact hl
  · rw [List.length_append] at hl; omega
theorem Digs.done {k : Int} {p : Int × List UInt8} (h : Digs k p) (hp : ¬ 0 < p.1) : Lib.decDigits k.toNat = p.2 := by
  have := h.lo
  rw [h.eq, if_pos (by omega)]
theorem markText_fn (k : Int) (h1 : k ≤ 1000000) (h0 : -1000000 ≤ k) : Fn prog 44 [.int .i64 k] (fun rs => rs = [.str (mtx k)]) := by
  by_cases h : k ≤ 0
  · have hd : decide (k ≤ 0) = true := decide_eq_true h
    have hm : mtx k = [109, 48] := if_pos h
    rw [hm]
    refine Fn_of' (fn := f44) (by exact func44) c44 r44 (n := 20) (by rfl) (rv := [.tmp 2]) (by rfl) (by simp) ?_
    unfold m44
    repeat' (first
        | (simp only [hd, ↓wA, ↓wC, wB, frzBE, frzBS, Nat.reduceEqDiff, Nat.reduceAdd, Nat.reduceSub, reduceIte, reduceCtorEq, Nat.reduceBEq, Nat.reduceLT, decide_true])
        | (refine execG_split (fun h => ?_) (fun h => ?_) <;> simp only [h])
        | (refine execC_split (fun h => ?_) (fun h => ?_) <;> (try simp only [h]))
        | (refine onPick_split (fun h => ?_) (fun h => ?_) <;> (try simp only [h])))
  · have hd : decide (k ≤ 0) = false := decide_eq_false h
    have hm : mtx k = 109 :: Lib.decDigits k.toNat := if_neg h
    rw [hm]
    refine Fn_of' (fn := f44) (by exact func44) c44 r44 (n := 20) (by rfl) (rv := [.tmp 2]) (by rfl) (by simp) ?_
    unfold m44
    repeat' (first
        | (simp only [hd, ↓wA, ↓wC, wB, frzBE, frzBS, Nat.reduceEqDiff, Nat.reduceAdd, Nat.reduceSub, reduceIte, reduceCtorEq, Nat.reduceBEq, Nat.reduceLT, decide_true])
        | (refine execG_split (fun h => ?_) (fun h => ?_) <;> simp only [h])
        | (refine execC_split (fun h => ?_) (fun h => ?_) <;> (try simp only [h]))
        | (refine onPick_split (fun h => ?_) (fun h => ?_) <;> (try simp only [h])))
    refine exec_loop (fun p : Int × List UInt8 => ⟨[(0, .d (.int .i64 p.1)), (3, .d (.str p.2))], []⟩) (Digs k) (fun p => p.1.toNat) (k, []) (weak_of _ rfl ⟨⟨rfl, rfl⟩, ⟨rfl, rfl⟩, trivial⟩) (Digs.start (by omega)) ?_
    intro p hp
    have l0 := hp.lo
    have lh := hp.hi
    have ll := hp.len
    by_cases hpos : 0 < p.1
    · have hd : decide (0 < p.1) = true := decide_eq_true hpos
      have hnx := hp.next h1 hpos
      have hq : p.1.tdiv 10 = p.1 / 10 := Int.tdiv_eq_ediv_of_nonneg l0
      have hr : p.1.tmod 10 = p.1 % 10 := Int.tmod_eq_emod_of_nonneg l0
      repeat' (first
          | (simp only [hd, hq, hr, onC_true, ↓wA, ↓wC, wB, frzBE, frzBS, Nat.reduceEqDiff, Nat.reduceAdd, Nat.reduceSub, reduceIte, reduceCtorEq, Nat.reduceBEq, Nat.reduceLT, decide_true])
          | (with_reducible refine onC_i ?_ ?_; focus decide)
          | (with_reducible refine onC_i ?_ ?_; focus omega)
          | (with_reducible refine onI_bare ?_ ?_; focus (simp only [InR]; omega))
          | (refine execG_split (fun h => ?_) (fun h => ?_) <;> simp only [h])
          | (refine execC_split (fun h => ?_) (fun h => ?_) <;> (try simp only [h]))
          | (refine onPick_split (fun h => ?_) (fun h => ?_) <;> (try simp only [h])))
      refine b2s_own (bs := [UInt8.ofNat (48 + (p.1 % 10).toNat)]) (by
        have e : (((UInt8.ofNat (48 + (p.1 % 10).toNat)).toNat : Nat) : Int) = 48 + p.1 % 10 := by
          rw [UInt8.toNat_ofNat']; omega
        show some (Ob.val (D.sl true 1 ((D.int IntKind.u8 (48 + p.1 % 10)).cons D.nil))) = some (.val (.sl true 1 (D.cons (.int .u8 (((UInt8.ofNat (48 + (p.1 % 10).toNat)).toNat : Nat) : Int)) .nil)))
        rw [e]) ?_
      repeat' (first
          | (simp only [hq, onC_true, ↓wA, ↓wC, wB, frzBE, frzBS, Nat.reduceEqDiff, Nat.reduceAdd, Nat.reduceSub, reduceIte, reduceCtorEq, Nat.reduceBEq, Nat.reduceLT, decide_true])
          | (with_reducible refine onC_i ?_ ?_; focus decide)
          | (with_reducible refine onC_i ?_ ?_; focus omega)
          | (with_reducible refine onC_i ?_ ?_; focus (simp; omega))
          | (with_reducible refine onI_bare ?_ ?_; focus (simp only [InR]; omega))
          | (refine execG_split (fun h => ?_) (fun h => ?_) <;> simp only [h])
          | (refine execC_split (fun h => ?_) (fun h => ?_) <;> (try simp only [h]))
          | (refine onPick_split (fun h => ?_) (fun h => ?_) <;> (try simp only [h])))
      exact ⟨_, (weak_of _ rfl ⟨⟨rfl, rfl⟩, ⟨rfl, rfl⟩, trivial⟩), hnx, by show (p.1 / 10).toNat < p.1.toNat; omega⟩
    · have hd : decide (0 < p.1) = false := decide_eq_false hpos
      have hdn := hp.done hpos
      repeat' (first
          | (simp only [hd, onC_true, ↓wA, ↓wC, wB, frzBE, frzBS, Nat.reduceEqDiff, Nat.reduceAdd, Nat.reduceSub, reduceIte, reduceCtorEq, Nat.reduceBEq, Nat.reduceLT, decide_true])
          | (with_reducible refine onC_i ?_ ?_; focus omega)
          | (refine execG_split (fun h => ?_) (fun h => ?_) <;> simp only [h])
          | (refine execC_split (fun h => ?_) (fun h => ?_) <;> (try simp only [h]))
          | (refine onPick_split (fun h => ?_) (fun h => ?_) <;> (try simp only [h])))
      all_goals rw [hdn]
theorem eqLogRecord_refl (e : List UInt8 × List UInt8) : Fn prog 43 [recE e, recE e] (fun rs => rs = [.bool true]) := by
  refine Fn_of' (fn := f43) (by exact func43) c43 r43 (n := 15) (by rfl) (rv := [.tmp 4]) (by rfl) (by simp) ?_
  unfold m43
  simp only [recE]
  repeat' (first
      | (simp only [decide_true, ↓wA, ↓wC, wB, frzBE, frzBS, Nat.reduceEqDiff, Nat.reduceAdd, Nat.reduceSub, reduceIte, reduceCtorEq, Nat.reduceBEq, Nat.reduceLT, decide_true])
      | (refine execG_split (fun h => ?_) (fun h => ?_) <;> simp only [h])
      | (refine execC_split (fun h => ?_) (fun h => ?_) <;> (try simp only [h]))
      | (refine onPick_split (fun h => ?_) (fun h => ?_) <;> (try simp only [h])))
theorem eqLogRecordS_refl (L : List (List UInt8 × List UInt8)) (hl : L.length ≤ 1000) : Fn prog 20 [.sl false 2 (dl recE L), .sl false 2 (dl recE L)] (fun rs => rs = [.bool true]) := by
  refine Fn_of' (fn := f20) (by exact func20) c20 r20 (n := 27) (by rfl) (rv := [.tmp 4]) (by rfl) (by simp) ?_
  unfold m20
  repeat' (first
      | (simp only [dl_len, decide_true, ↓wA, ↓wC, wB, frzBE, frzBS, Nat.reduceEqDiff, Nat.reduceAdd, Nat.reduceSub, reduceIte, reduceCtorEq, Nat.reduceBEq, Nat.reduceLT, decide_true])
      | (refine execG_split (fun h => ?_) (fun h => ?_) <;> simp only [h])
      | (refine execC_split (fun h => ?_) (fun h => ?_) <;> (try simp only [h]))
      | (refine onPick_split (fun h => ?_) (fun h => ?_) <;> (try simp only [h])))
  refine exec_range L.length (fun i : Nat => ⟨[(0, .d (.sl false 2 (dl recE L))), (1, .d (.sl false 2 (dl recE L))), (5, .d (.int .i64 i))], []⟩) (fun _ => True) (weak_of _ rfl ⟨⟨rfl, rfl⟩, ⟨rfl, rfl⟩, ⟨rfl, rfl⟩, trivial⟩) trivial ?_ ?_
  · intro i hi _ hd h0
    obtain ⟨e, hr⟩ := get_lt hi
    have hE := eqLogRecord_refl e
    simp only [recE] at hE
    repeat' (first
        | (simp only [dl_len, hd, h0, dl_nth, Int.toNat_natCast, hr, Option.map_some, recE, onC_true, ↓wA, ↓wC, wB, frzBE, frzBS, Nat.reduceEqDiff, Nat.reduceAdd, Nat.reduceSub, reduceIte, reduceCtorEq, Nat.reduceBEq, Nat.reduceLT, decide_true])
        | (refine call_det (hE) rfl rfl ?_)
        | (refine callP_det (hE) rfl rfl ?_)
        | (with_reducible refine onI_bare ?_ ?_; focus (simp only [InR]; omega))
        | (refine execG_split (fun h => ?_) (fun h => ?_) <;> simp only [h])
        | (refine execC_split (fun h => ?_) (fun h => ?_) <;> (try simp only [h]))
        | (refine onPick_split (fun h => ?_) (fun h => ?_) <;> (try simp only [h])))
    all_goals exact ⟨i + 1, (weak_of _ rfl ⟨⟨rfl, rfl⟩, ⟨rfl, rfl⟩, ⟨rfl, rfl⟩, trivial⟩), by omega, by omega⟩
  · intro _ hd
    repeat' (first
        | (simp only [dl_len, hd, ↓wA, ↓wC, wB, frzBE, frzBS, Nat.reduceEqDiff, Nat.reduceAdd, Nat.reduceSub, reduceIte, reduceCtorEq, Nat.reduceBEq, Nat.reduceLT, decide_true])
        | (refine execG_split (fun h => ?_) (fun h => ?_) <;> simp only [h])
        | (refine execC_split (fun h => ?_) (fun h => ?_) <;> (try simp only [h]))
        | (refine onPick_split (fun h => ?_) (fun h => ?_) <;> (try simp only [h])))
def markR : Nat → Int → List (List UInt8 × List UInt8)
  | 0, _ => []
  | n + 1, k => (mtx k, mtx (k + 1)) :: markR n (k + 2)
theorem markR_len : ∀ (n : Nat) (k : Int), (markR n k).length = n
  | 0, _ => rfl
  | n + 1, k => by simp [markR, markR_len n]
theorem markR_get : ∀ (n : Nat) (k : Int) (i : Nat), i < n → (markR n k)[i]? = some (mtx (k + 2 * i), mtx (k + 2 * i + 1))
  | 0, _, i, h => by omega
  | n + 1, k, 0, _ => by simp [markR]
  | n + 1, k, i + 1, h => by
    simp only [markR, List.getElem?_cons_succ]
    rw [markR_get n (k + 2) i (by omega)]
    have e : k + 2 + 2 * (i : Int) = k + 2 * ((i + 1 : Nat) : Int) := by omega
    rw [e]
theorem markR_snoc : ∀ (n : Nat) (k : Int), markR (n + 1) k = markR n k ++ [(mtx (k + 2 * n), mtx (k + 2 * n + 1))]
  | 0, k => by simp [markR]
  | n + 1, k => by
    have h := markR_snoc n (k + 2)
    rw [markR, h, markR, List.cons_append]
    have e : k + 2 + 2 * (n : Int) = k + 2 * ((n + 1 : Nat) : Int) := by omega
    rw [e]
theorem markR_set {L : List (List UInt8 × List UInt8)} {i : Nat} {k : Int} (h : i < L.length) : (markR i k ++ L.drop i).set i (mtx (k + 2 * i), mtx (k + 2 * i + 1)) = markR (i + 1) k ++ L.drop (i + 1) := by
  rw [List.set_append_right _ _ (by rw [markR_len]; omega), markR_len, Nat.sub_self, List.drop_eq_getElem_cons h, List.set_cons_zero, markR_snoc, List.append_assoc]
  rfl
theorem dget_r0 {e : List UInt8 × List UInt8} : dget [0] (recE e) = some (.str e.1) := rfl
theorem dget_r1 {e : List UInt8 × List UInt8} : dget [1] (recE e) = some (.str e.2) := rfl
theorem dset_r0 {e : List UInt8 × List UInt8} {s : List UInt8} : dset [0] (recE e) (.str s) = recE (s, e.2) := rfl
theorem dset_r1 {e : List UInt8 × List UInt8} {s : List UInt8} : dset [1] (recE e) (.str s) = recE (e.1, s) := rfl
theorem doff_r0 {e : List UInt8 × List UInt8} : doff [0] (recE e) = 0 := rfl
theorem doff_r1 {e : List UInt8 × List UInt8} : doff [1] (recE e) = 1 := rfl
theorem setN_two : ∀ (xs : D) (i : Nat) (y z : D), (xs.setN i y).setN i z = xs.setN i z := by
  intro xs
  induction xs with
  | cons a xs ih1 ih2 => intro i y z; cases i with
    | zero => rfl
    | succ i => simp only [D.setN]; rw [ih2]
  | _ => intro i y z; cases i <;> rfl
theorem markLogRecordS_fn (L : List (List UInt8 × List UInt8)) (k : Int) (h0 : 0 ≤ k) (h1 : k ≤ 1000) (hl : L.length ≤ 1000) : FnM prog 21 false (.sl true 2 (dl recE L)) [.int .i64 k] (fun x' rs => x' = .sl true 2 (dl recE (markR L.length k)) ∧ rs = [.int .i64 (k + 2 * L.length)]) := by
  refine FnM_of' (fn := f21) (by exact func21) c21 r21 (n := 29) (by rfl) (rv := [.tmp 4]) (by rfl) (by decide) (by simp) ?_
  unfold m21
  simp only [dl_len, ↓wA, ↓wC, wB, frzBE, frzBS, Nat.reduceEqDiff, Nat.reduceAdd, Nat.reduceSub, reduceIte, reduceCtorEq, Nat.reduceBEq, Nat.reduceLT, decide_true]
  refine exec_range L.length (fun i : Nat => ⟨[(0, .own 0), (1, .d (.int .i64 (k + 2 * i))), (5, .d (.int .i64 i))], [.val (.sl true 2 (dl recE (markR i k ++ L.drop i)))]⟩) (fun _ => True) (weak_of [] rfl ⟨⟨rfl, rfl⟩, ⟨congrArg (fun n => SV.d (.int .i64 n)) (by simp), rfl⟩, ⟨rfl, rfl⟩, trivial⟩) trivial ?_ ?_
  · intro i hi _ hd hi0
    obtain ⟨e, hr⟩ := get_lt hi
    have hL : (markR i k ++ L.drop i)[i]? = some e := by
      rw [List.getElem?_append_right (by rw [markR_len]; omega), markR_len, Nat.sub_self, List.getElem?_drop]; exact hr
    have hll : (markR i k ++ L.drop i).length = L.length := by rw [List.length_append, markR_len, List.length_drop]; omega
    have hgs : ∀ (y : D), ((dl recE (markR i k ++ L.drop i)).setN i y).nth i = some y := fun y => by rw [setN_nth, if_pos rfl, dl_nth, hL]; rfl
    have hm1 := markText_fn (k + 2 * i) (by omega) (by omega)
    have hm2 := markText_fn (k + 2 * i + 1) (by omega) (by omega)
    repeat' (first
        | (simp only [dl_len, hll, hd, hi0, dl_nth, Int.toNat_natCast, hL, Option.map_some, onC_true, hgs, setN_len, dset_r0, dset_r1, doff_r0, doff_r1, dget_r0, dget_r1, setN_two, ↓wA, ↓wC, wB, frzBE, frzBS, Nat.reduceEqDiff, Nat.reduceAdd, Nat.reduceSub, reduceIte, reduceCtorEq, Nat.reduceBEq, Nat.reduceLT, decide_true])
        | (refine call_det (hm1) rfl rfl ?_)
        | (refine callP_det (hm1) rfl rfl ?_)
        | (refine call_det (hm2) rfl rfl ?_)
        | (refine callP_det (hm2) rfl rfl ?_)
        | (with_reducible refine onI_bare ?_ ?_; focus (simp only [InR]; omega))
        | (refine execG_split (fun h => ?_) (fun h => ?_) <;> simp only [h])
        | (refine execC_split (fun h => ?_) (fun h => ?_) <;> (try simp only [h]))
        | (refine onPick_split (fun h => ?_) (fun h => ?_) <;> (try simp only [h])))
    all_goals
      have es : (dl recE (markR i k ++ L.drop i)).setN i (recE (mtx (k + 2 * i), mtx (k + 2 * i + 1))) = dl recE (markR (i + 1) k ++ L.drop (i + 1)) := (dl_setN (f := recE) _ i _).trans (by rw [markR_set hi])
      rw [es]
      refine ⟨i + 1, weak_of [] rfl ⟨⟨rfl, rfl⟩, ⟨congrArg (fun n => SV.d (.int .i64 n)) (by omega), rfl⟩, ⟨rfl, rfl⟩, trivial⟩, by omega, by omega⟩
  · intro _ hd
    repeat' (first
        | (simp only [hd, List.drop_length, List.append_nil, markR_len, dl_len, ↓wA, ↓wC, wB, frzBE, frzBS, Nat.reduceEqDiff, Nat.reduceAdd, Nat.reduceSub, reduceIte, reduceCtorEq, Nat.reduceBEq, Nat.reduceLT, decide_true])
        | (refine execG_split (fun h => ?_) (fun h => ?_) <;> simp only [h])
        | (refine execC_split (fun h => ?_) (fun h => ?_) <;> (try simp only [h]))
        | (refine onPick_split (fun h => ?_) (fun h => ?_) <;> (try simp only [h])))
theorem heldLogRecordS_fn (n : Nat) (k : Int) (h0 : 0 ≤ k) (h1 : k ≤ 1000) (hl : n ≤ 1000) : Fn prog 22 [.sl false 2 (dl recE (markR n k)), .int .i64 k] (fun rs => rs = [.int .i64 (k + 2 * n)]) := by
  refine Fn_of' (fn := f22) (by exact func22) c22 r22 (n := 33) (by rfl) (rv := [.tmp 4]) (by rfl) (by simp) ?_
  unfold m22
  simp only [dl_len, markR_len, ↓wA, ↓wC, wB, frzBE, frzBS, Nat.reduceEqDiff, Nat.reduceAdd, Nat.reduceSub, reduceIte, reduceCtorEq, Nat.reduceBEq, Nat.reduceLT, decide_true]
  refine exec_range n (fun i : Nat => ⟨[(0, .d (.sl false 2 (dl recE (markR n k)))), (1, .d (.int .i64 (k + 2 * i))), (5, .d (.int .i64 i))], []⟩) (fun _ => True) (weak_of _ rfl ⟨⟨rfl, rfl⟩, ⟨congrArg (fun n => SV.d (.int .i64 n)) (by simp), rfl⟩, ⟨rfl, rfl⟩, trivial⟩) trivial ?_ ?_
  · intro i hi _ hd hi0
    have hL := markR_get n k i hi
    have hm1 := markText_fn (k + 2 * i) (by omega) (by omega)
    have hm2 := markText_fn (k + 2 * i + 1) (by omega) (by omega)
    repeat' (first
        | (simp only [dl_len, markR_len, hd, hi0, dl_nth, Int.toNat_natCast, hL, Option.map_some, onC_true, recE, decide_true, ↓wA, ↓wC, wB, frzBE, frzBS, Nat.reduceEqDiff, Nat.reduceAdd, Nat.reduceSub, reduceIte, reduceCtorEq, Nat.reduceBEq, Nat.reduceLT, decide_true])
        | (refine call_det (hm1) rfl rfl ?_)
        | (refine callP_det (hm1) rfl rfl ?_)
        | (refine call_det (hm2) rfl rfl ?_)
        | (refine callP_det (hm2) rfl rfl ?_)
        | (with_reducible refine onI_bare ?_ ?_; focus (simp only [InR]; omega))
        | (refine execG_split (fun h => ?_) (fun h => ?_) <;> simp only [h])
        | (refine execC_split (fun h => ?_) (fun h => ?_) <;> (try simp only [h]))
        | (refine onPick_split (fun h => ?_) (fun h => ?_) <;> (try simp only [h])))
    all_goals refine ⟨i + 1, weak_of [] rfl ⟨⟨rfl, rfl⟩, ⟨congrArg (fun n => SV.d (.int .i64 n)) (by omega), rfl⟩, ⟨rfl, rfl⟩, trivial⟩, by omega, by omega⟩
  · intro _ hd
    repeat' (first
        | (simp only [hd, markR_len, dl_len, ↓wA, ↓wC, wB, frzBE, frzBS, Nat.reduceEqDiff, Nat.reduceAdd, Nat.reduceSub, reduceIte, reduceCtorEq, Nat.reduceBEq, Nat.reduceLT, decide_true])
        | (refine execG_split (fun h => ?_) (fun h => ?_) <;> simp only [h])
        | (refine execC_split (fun h => ?_) (fun h => ?_) <;> (try simp only [h]))
        | (refine onPick_split (fun h => ?_) (fun h => ?_) <;> (try simp only [h])))
def logR (d p : List UInt8) (c : Int) : List (List UInt8 × List UInt8) := if lv d p c = true then recsOf d p else []
theorem implLogRecords_fn (d p : List UInt8) (c : Int) (hl : d.length + p.length ≤ 100000000) : Fn prog 19 [logD d p c] (fun rs => rs = [.sl true 2 (dl recE (logR d p c)), .bool (lv d p c)]) := by
  have hR := recordsOf_fn d p c hl
  unfold logR
  cases hv : lv d p c with
  | true =>
    rw [hv] at hR
    refine Fn_of' (fn := f19) (by exact func19) c19 r19 (n := 14) (by rfl) (rv := [.tmp 2, .tmp 3]) (by rfl) (by simp) ?_
    unfold m19
    simp only [logD] at hR ⊢
    repeat' (first
        | (simp only [↓wA, ↓wC, wB, frzBE, frzBS, Nat.reduceEqDiff, Nat.reduceAdd, Nat.reduceSub, reduceIte, reduceCtorEq, Nat.reduceBEq, Nat.reduceLT, decide_true])
        | (refine call_det (hR) rfl rfl ?_)
        | (refine callP_det (hR) rfl rfl ?_)
        | (refine take_nil 2 ?_)
        | (refine execG_split (fun h => ?_) (fun h => ?_) <;> simp only [h])
        | (refine execC_split (fun h => ?_) (fun h => ?_) <;> (try simp only [h]))
        | (refine onPick_split (fun h => ?_) (fun h => ?_) <;> (try simp only [h])))
    all_goals simp
  | false =>
    rw [hv] at hR
    refine Fn_of' (fn := f19) (by exact func19) c19 r19 (n := 14) (by rfl) (rv := [.tmp 2, .tmp 3]) (by rfl) (by simp) ?_
    unfold m19
    simp only [logD] at hR ⊢
    repeat' (first
        | (simp only [↓wA, ↓wC, wB, frzBE, frzBS, Nat.reduceEqDiff, Nat.reduceAdd, Nat.reduceSub, reduceIte, reduceCtorEq, Nat.reduceBEq, Nat.reduceLT, decide_true])
        | (refine call_det (hR) rfl rfl ?_)
        | (refine callP_det (hR) rfl rfl ?_)
        | (refine take_nil 2 ?_)
        | (refine execG_split (fun h => ?_) (fun h => ?_) <;> simp only [h])
        | (refine execC_split (fun h => ?_) (fun h => ?_) <;> (try simp only [h]))
        | (refine onPick_split (fun h => ?_) (fun h => ?_) <;> (try simp only [h])))
    all_goals first | rfl | (simp [dl]; rfl)
theorem specLogRecords_fn (d p : List UInt8) (c : Int) (hl : d.length + p.length ≤ 1048576) : Fn prog 18 [logD d p c] (fun rs => rs = [.sl true 2 (dl recE (logR d p c)), .bool (lv d p c)]) := by
  have hV := l27Log_fn d p c (by omega)
  have hO := l27Open_fn (d ++ p) (by rw [List.length_append]; omega)
  unfold logR
  cases hv : lv d p c with
  | true =>
    rw [hv] at hV
    refine Fn_of' (fn := f18) (by exact func18) c18 r18 (n := 20) (by rfl) (rv := [.tmp 2, .tmp 3]) (by rfl) (by simp) ?_
    unfold m18
    simp only [logD] at hV ⊢
    repeat' (first
        | (simp only [onC_true, ↓wA, ↓wC, wB, frzBE, frzBS, Nat.reduceEqDiff, Nat.reduceAdd, Nat.reduceSub, reduceIte, reduceCtorEq, Nat.reduceBEq, Nat.reduceLT, decide_true])
        | (refine call_det (hV) rfl rfl ?_)
        | (refine callP_det (hV) rfl rfl ?_)
        | (refine call_det (hO) rfl rfl ?_)
        | (refine callP_det (hO) rfl rfl ?_)
        | (with_reducible refine onC_i ?_ ?_; focus omega)
        | (refine execG_split (fun h => ?_) (fun h => ?_) <;> simp only [h])
        | (refine execC_split (fun h => ?_) (fun h => ?_) <;> (try simp only [h]))
        | (refine onPick_split (fun h => ?_) (fun h => ?_) <;> (try simp only [h])))
    all_goals simp [recsOf]
  | false =>
    rw [hv] at hV
    refine Fn_of' (fn := f18) (by exact func18) c18 r18 (n := 20) (by rfl) (rv := [.tmp 2, .tmp 3]) (by rfl) (by simp) ?_
    unfold m18
    simp only [logD] at hV ⊢
    repeat' (first
        | (simp only [onC_true, ↓wA, ↓wC, wB, frzBE, frzBS, Nat.reduceEqDiff, Nat.reduceAdd, Nat.reduceSub, reduceIte, reduceCtorEq, Nat.reduceBEq, Nat.reduceLT, decide_true])
        | (refine call_det (hV) rfl rfl ?_)
        | (refine callP_det (hV) rfl rfl ?_)
        | (refine execG_split (fun h => ?_) (fun h => ?_) <;> simp only [h])
        | (refine execC_split (fun h => ?_) (fun h => ?_) <;> (try simp only [h]))
        | (refine onPick_split (fun h => ?_) (fun h => ?_) <;> (try simp only [h])))
    all_goals first | rfl | (simp [dl]; rfl)
theorem law7_fn (d p : List UInt8) (c : Int) (hd : d.length ≤ maxLen) (hp : p.length ≤ maxLen) : Fn prog 5 [logD d p c] (fun rs => rs = [.bool true]) := by
  have hz := szLog_fn d p c hd hp
  have ht := toLog_fn d p c
  by_cases h : szL2 d p 1048576 < 0
  · have hdz : decide (szL2 d p 1048576 < 0) = true := decide_eq_true h
    refine Fn_of' (fn := f5) (by exact func5) c5 r5 (n := 72) (by rfl) (rv := [.tmp 2]) (by rfl) (by simp) ?_
    unfold m5
    simp only [logD] at hz ht ⊢
    repeat' (first
        | (simp only [hdz, ↓wA, ↓wC, wB, frzBE, frzBS, Nat.reduceEqDiff, Nat.reduceAdd, Nat.reduceSub, reduceIte, reduceCtorEq, Nat.reduceBEq, Nat.reduceLT, decide_true])
        | (refine call_det (hz) rfl rfl ?_)
        | (refine callP_det (hz) rfl rfl ?_)
        | (refine execG_split (fun h => ?_) (fun h => ?_) <;> simp only [h])
        | (refine execC_split (fun h => ?_) (fun h => ?_) <;> (try simp only [h]))
        | (refine onPick_split (fun h => ?_) (fun h => ?_) <;> (try simp only [h])))
  · have hdz : decide (szL2 d p 1048576 < 0) = false := decide_eq_false h
    have hl := szL2_ok h
    have hS := specLogRecords_fn d p c (by omega)
    have hI := implLogRecords_fn d p c (by omega)
    have hlen : (logR d p c).length ≤ 60 := by
      unfold logR
      split
      · exact (opens_le 60 0 (d ++ p)).2
      · simp
    generalize logR d p c = L at *
    generalize lv d p c = b at *
    have hE := eqLogRecordS_refl L (by omega)
    have hM := markLogRecordS_fn L 1 (by omega) (by omega) (by omega)
    have hH := heldLogRecordS_fn L.length 1 (by omega) (by omega) (by omega)
    have n1 : decide (1 + 2 * (L.length : Int) < 0) = false := decide_eq_false (by omega)
    have hE' : Fn prog 20 [.sl false 2 (dl recE L).unown, .sl false 2 (dl recE L).unown] (fun rs => rs = [.bool true]) := by rw [recs_unown]; exact hE
    have hH' : Fn prog 22 [.sl false 2 (dl recE (markR L.length 1)).unown, .int .i64 1] (fun rs => rs = [.int .i64 (1 + 2 * L.length)]) := by rw [recs_unown]; exact hH
    have hoA : (([D.sl true 2 (dl recE L), .bool b]).all D.allOwn) = true := by simp [D.allOwn, recs_allOwn]
    refine Fn_of' (fn := f5) (by exact func5) c5 r5 (n := 72) (by rfl) (rv := [.tmp 2]) (by rfl) (by simp) ?_
    unfold m5
    simp only [logD] at hz ht hS hI ⊢
    repeat' (first
        | (simp only [hdz, n1, decide_true, ↓wA, ↓wC, wB, frzBE, frzBS, Nat.reduceEqDiff, Nat.reduceAdd, Nat.reduceSub, reduceIte, reduceCtorEq, Nat.reduceBEq, Nat.reduceLT, decide_true])
        | (refine call_det (hz) rfl rfl ?_)
        | (refine callP_det (hz) rfl rfl ?_)
        | (refine call_det (ht) rfl rfl ?_)
        | (refine callP_det (ht) rfl rfl ?_)
        | (refine call_det hS rfl (by rw [hoA, Bool.or_true]) ?_)
        | (refine call_det hI rfl (by rw [hoA, Bool.or_true]) ?_)
        | (refine call_det hE' rfl rfl ?_)
        | (refine callM_det hM rfl rfl rfl ?_)
        | (refine call_det hH' rfl rfl ?_)
        | (refine execG_split (fun h => ?_) (fun h => ?_) <;> simp only [h])
        | (refine execC_split (fun h => ?_) (fun h => ?_) <;> (try simp only [h]))
        | (refine onPick_split (fun h => ?_) (fun h => ?_) <;> (try simp only [h])))
theorem law7 (x0 : D) (h0 : Typed logSh x0) : Fn prog 5 [x0] (fun rs => rs = [.bool true]) := by
  obtain ⟨_, rfl, _, _, rfl, ⟨d, rfl, hd⟩, _, _, rfl, ⟨p, rfl, hp⟩, _, _, rfl, ⟨c, rfl, _⟩, rfl⟩ := h0
  exact law7_fn d p c hd hp
end Go.Pe.Tryd
