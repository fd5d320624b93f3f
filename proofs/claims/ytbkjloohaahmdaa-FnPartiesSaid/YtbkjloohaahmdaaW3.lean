/- The draws of appeals; What the laws compare by, walked; What the laws of appeals say, in plain lists; What the laws of appeals say, in plain lists: each law; The law of appeals, walked; The law of appeals, joined -/
import Derived.Test.YtbkjloohaahmdaaW2
import Derived.Test.YtbkjloohaahmdaaW1
set_option maxRecDepth 100000
set_option maxHeartbeats 4000000
set_option linter.all false
namespace Go.Pe.Try
open Go.Proofs.Try
/-- a drawn list. -/
def drawnL (xs : List App) : Prop := xs.length ≤ 12 ∧ ∀ x ∈ xs, x.few
theorem drawAre_fn (code : List UInt8) (hc : code.length ≤ 1048576) : Fn prog 101 [.sl false 1 (bytesD code)] (fun rs => ∃ xs : List App, rs = [.sl false 6 (appsD xs)] ∧ drawnL xs) := by
  refine Fn_of' (fn := f101) (by exact func101) c101 r101 (n := 9) (by rfl) (rv := [.tmp 2]) (by rfl) (by simp) ?_
  unfold m101
  repeat' (first
      | (simp only [onC_true, bytes_noOwn, ↓wA, ↓wC, wB, frzBE, frzBS, Nat.reduceEqDiff, Nat.reduceAdd, Nat.reduceSub, reduceIte, reduceCtorEq, Nat.reduceBEq, Nat.reduceLT, decide_true])
      | (refine execG_split (fun h => ?_) (fun h => ?_) <;> simp only [h])
      | (refine execC_split (fun h => ?_) (fun h => ?_) <;> (try simp only [h]))
      | (refine onPick_split (fun h => ?_) (fun h => ?_) <;> (try simp only [h])))
  refine callM_rel (appeals_fn code 0 0 hc (by omega)) rfl rfl rfl ?_
  rintro _ _ ⟨xs, k1, s1, rfl, rfl, hk1, hk1', hxl, hxf⟩
  have hno := apps_noOwn xs
  simp only [hno, ↓wA, ↓wC, wB, frzBE, frzBS, Nat.reduceEqDiff, Nat.reduceAdd, Nat.reduceSub, reduceIte, reduceCtorEq, Nat.reduceBEq, Nat.reduceLT, decide_true]
  repeat' (first
      | (simp only [onC_true, hno, ↓wA, ↓wC, wB, frzBE, frzBS, Nat.reduceEqDiff, Nat.reduceAdd, Nat.reduceSub, reduceIte, reduceCtorEq, Nat.reduceBEq, Nat.reduceLT, decide_true])
      | (refine execG_split (fun h => ?_) (fun h => ?_) <;> simp only [h])
      | (refine execC_split (fun h => ?_) (fun h => ?_) <;> (try simp only [h]))
      | (refine onPick_split (fun h => ?_) (fun h => ?_) <;> (try simp only [h])))
  exact ⟨xs, rfl, hxl, hxf⟩
theorem drawBusiest_fn (code : List UInt8) (hc : code.length ≤ 1048576) : Fn prog 42 [.sl false 1 (bytesD code)] (fun rs => ∃ xs : List App, rs = [.sl false 6 (appsD xs)] ∧ drawnL xs) := by
  refine Fn_of' (fn := f42) (by exact func42) c42 r42 (n := 5) (by rfl) (rv := [.tmp 2]) (by rfl) (by simp) ?_
  unfold m42
  repeat' (first
      | (simp only [onC_true, ↓wA, ↓wC, wB, frzBE, frzBS, Nat.reduceEqDiff, Nat.reduceAdd, Nat.reduceSub, reduceIte, reduceCtorEq, Nat.reduceBEq, Nat.reduceLT, decide_true])
      | (refine execG_split (fun h => ?_) (fun h => ?_) <;> simp only [h])
      | (refine execC_split (fun h => ?_) (fun h => ?_) <;> (try simp only [h]))
      | (refine onPick_split (fun h => ?_) (fun h => ?_) <;> (try simp only [h])))
  refine call_rel (drawAre_fn code hc) rfl fun rs h => ?_
  obtain ⟨xs, rfl, hx⟩ := h
  have hno := apps_noOwn xs
  repeat' (first
      | (simp only [hno, ↓wA, ↓wC, wB, frzBE, frzBS, Nat.reduceEqDiff, Nat.reduceAdd, Nat.reduceSub, reduceIte, reduceCtorEq, Nat.reduceBEq, Nat.reduceLT, decide_true])
      | (refine execG_split (fun h => ?_) (fun h => ?_) <;> simp only [h])
      | (refine execC_split (fun h => ?_) (fun h => ?_) <;> (try simp only [h]))
      | (refine onPick_split (fun h => ?_) (fun h => ?_) <;> (try simp only [h])))
  exact ⟨.inl rfl, xs, rfl, hx⟩
theorem drawLapse_fn (code : List UInt8) (hc : code.length ≤ 1048576) : Fn prog 35 [.sl false 1 (bytesD code)] (fun rs => ∃ (xs : List App) (day : Int), rs = [.sl false 6 (appsD xs), .int .i64 day] ∧ drawnL xs ∧ -1 ≤ day ∧ day ≤ 20001) := by
  refine Fn_of' (fn := f35) (by exact func35) c35 r35 (n := 14) (by rfl) (rv := [.tmp 2, .tmp 3]) (by rfl) (by simp) ?_
  unfold m35
  repeat' (first
      | (simp only [onC_true, bytes_noOwn, ↓wA, ↓wC, wB, frzBE, frzBS, Nat.reduceEqDiff, Nat.reduceAdd, Nat.reduceSub, reduceIte, reduceCtorEq, Nat.reduceBEq, Nat.reduceLT, decide_true])
      | (refine execG_split (fun h => ?_) (fun h => ?_) <;> simp only [h])
      | (refine execC_split (fun h => ?_) (fun h => ?_) <;> (try simp only [h]))
      | (refine onPick_split (fun h => ?_) (fun h => ?_) <;> (try simp only [h])))
  refine callM_rel (appeals_fn code 0 0 hc (by omega)) rfl rfl rfl ?_
  rintro _ _ ⟨xs, k1, s1, rfl, rfl, hk1, hk1', hxl, hxf⟩
  have hno := apps_noOwn xs
  simp only [hno, ↓wA, ↓wC, wB, frzBE, frzBS, Nat.reduceEqDiff, Nat.reduceAdd, Nat.reduceSub, reduceIte, reduceCtorEq, Nat.reduceBEq, Nat.reduceLT, decide_true]
  repeat' (first
      | (simp only [onC_true, hno, ↓wA, ↓wC, wB, frzBE, frzBS, Nat.reduceEqDiff, Nat.reduceAdd, Nat.reduceSub, reduceIte, reduceCtorEq, Nat.reduceBEq, Nat.reduceLT, decide_true])
      | (refine execG_split (fun h => ?_) (fun h => ?_) <;> simp only [h])
      | (refine execC_split (fun h => ?_) (fun h => ?_) <;> (try simp only [h]))
      | (refine onPick_split (fun h => ?_) (fun h => ?_) <;> (try simp only [h])))
  refine callM_rel (day24_fn code k1 s1 hc (by omega)) rfl rfl rfl ?_
  rintro _ _ ⟨d, k2, s2, rfl, rfl, hk2, hk2', hd1, hd2⟩
  repeat' (first
      | (simp only [onC_true, ↓wA, ↓wC, wB, frzBE, frzBS, Nat.reduceEqDiff, Nat.reduceAdd, Nat.reduceSub, reduceIte, reduceCtorEq, Nat.reduceBEq, Nat.reduceLT, decide_true])
      | (refine execG_split (fun h => ?_) (fun h => ?_) <;> simp only [h])
      | (refine execC_split (fun h => ?_) (fun h => ?_) <;> (try simp only [h]))
      | (refine onPick_split (fun h => ?_) (fun h => ?_) <;> (try simp only [h])))
  exact ⟨xs, d, rfl, ⟨hxl, hxf⟩, hd1, hd2⟩
theorem drawDays_fn (code : List UInt8) (hc : code.length ≤ 1048576) : Fn prog 39 [.sl false 1 (bytesD code)] (fun rs => ∃ (xs : List App) (id on : Int), rs = [.sl false 6 (appsD xs), .int .i64 id, .int .i64 on] ∧ drawnL xs ∧ -1 ≤ on ∧ on ≤ 20001) := by
  refine Fn_of' (fn := f39) (by exact func39) c39 r39 (n := 18) (by rfl) (rv := [.tmp 2, .tmp 3, .tmp 4]) (by rfl) (by simp) ?_
  unfold m39
  repeat' (first
      | (simp only [onC_true, bytes_noOwn, ↓wA, ↓wC, wB, frzBE, frzBS, Nat.reduceEqDiff, Nat.reduceAdd, Nat.reduceSub, reduceIte, reduceCtorEq, Nat.reduceBEq, Nat.reduceLT, decide_true])
      | (refine execG_split (fun h => ?_) (fun h => ?_) <;> simp only [h])
      | (refine execC_split (fun h => ?_) (fun h => ?_) <;> (try simp only [h]))
      | (refine onPick_split (fun h => ?_) (fun h => ?_) <;> (try simp only [h])))
  refine callM_rel (appeals_fn code 0 0 hc (by omega)) rfl rfl rfl ?_
  rintro _ _ ⟨xs, k1, s1, rfl, rfl, hk1, hk1', hxl, hxf⟩
  have hno := apps_noOwn xs
  simp only [hno, ↓wA, ↓wC, wB, frzBE, frzBS, Nat.reduceEqDiff, Nat.reduceAdd, Nat.reduceSub, reduceIte, reduceCtorEq, Nat.reduceBEq, Nat.reduceLT, decide_true]
  repeat' (first
      | (simp only [onC_true, hno, ↓wA, ↓wC, wB, frzBE, frzBS, Nat.reduceEqDiff, Nat.reduceAdd, Nat.reduceSub, reduceIte, reduceCtorEq, Nat.reduceBEq, Nat.reduceLT, decide_true])
      | (refine execG_split (fun h => ?_) (fun h => ?_) <;> simp only [h])
      | (refine execC_split (fun h => ?_) (fun h => ?_) <;> (try simp only [h]))
      | (refine onPick_split (fun h => ?_) (fun h => ?_) <;> (try simp only [h])))
  refine callM_rel (appealId_fn code k1 s1 xs 0 hc (by omega) hxl) rfl rfl rfl ?_
  rintro _ _ ⟨d, k2, s2, rfl, rfl, hk2, hk2', hd1⟩
  repeat' (first
      | (simp only [onC_true, ↓wA, ↓wC, wB, frzBE, frzBS, Nat.reduceEqDiff, Nat.reduceAdd, Nat.reduceSub, reduceIte, reduceCtorEq, Nat.reduceBEq, Nat.reduceLT, decide_true])
      | (refine execG_split (fun h => ?_) (fun h => ?_) <;> simp only [h])
      | (refine execC_split (fun h => ?_) (fun h => ?_) <;> (try simp only [h]))
      | (refine onPick_split (fun h => ?_) (fun h => ?_) <;> (try simp only [h])))
  refine callM_rel (day24_fn code k2 s2 hc (by omega)) rfl rfl rfl ?_
  rintro _ _ ⟨e, k3, s3, rfl, rfl, hk3, hk3', he1, he2⟩
  repeat' (first
      | (simp only [onC_true, ↓wA, ↓wC, wB, frzBE, frzBS, Nat.reduceEqDiff, Nat.reduceAdd, Nat.reduceSub, reduceIte, reduceCtorEq, Nat.reduceBEq, Nat.reduceLT, decide_true])
      | (refine execG_split (fun h => ?_) (fun h => ?_) <;> simp only [h])
      | (refine execC_split (fun h => ?_) (fun h => ?_) <;> (try simp only [h]))
      | (refine onPick_split (fun h => ?_) (fun h => ?_) <;> (try simp only [h])))
  exact ⟨xs, d, e, rfl, ⟨hxl, hxf⟩, he1, he2⟩
theorem drawWait_fn (code : List UInt8) (hc : code.length ≤ 1048576) : Fn prog 32 [.sl false 1 (bytesD code)] (fun rs => ∃ (xs : List App) (p : Int), rs = [.sl false 6 (appsD xs), .int .i64 p] ∧ drawnL xs) := by
  refine Fn_of' (fn := f32) (by exact func32) c32 r32 (n := 20) (by rfl) (rv := [.tmp 2, .tmp 3]) (by rfl) (by simp) ?_
  unfold m32
  repeat' (first
      | (simp only [onC_true, bytes_noOwn, ↓wA, ↓wC, wB, frzBE, frzBS, Nat.reduceEqDiff, Nat.reduceAdd, Nat.reduceSub, reduceIte, reduceCtorEq, Nat.reduceBEq, Nat.reduceLT, decide_true])
      | (refine execG_split (fun h => ?_) (fun h => ?_) <;> simp only [h])
      | (refine execC_split (fun h => ?_) (fun h => ?_) <;> (try simp only [h]))
      | (refine onPick_split (fun h => ?_) (fun h => ?_) <;> (try simp only [h])))
  refine callM_rel (appeals_fn code 0 0 hc (by omega)) rfl rfl rfl ?_
  rintro _ _ ⟨xs, k1, s1, rfl, rfl, hk1, hk1', hxl, hxf⟩
  have hno := apps_noOwn xs
  simp only [hno, ↓wA, ↓wC, wB, frzBE, frzBS, Nat.reduceEqDiff, Nat.reduceAdd, Nat.reduceSub, reduceIte, reduceCtorEq, Nat.reduceBEq, Nat.reduceLT, decide_true]
  repeat' (first
      | (simp only [onC_true, hno, ↓wA, ↓wC, wB, frzBE, frzBS, Nat.reduceEqDiff, Nat.reduceAdd, Nat.reduceSub, reduceIte, reduceCtorEq, Nat.reduceBEq, Nat.reduceLT, decide_true])
      | (refine execG_split (fun h => ?_) (fun h => ?_) <;> simp only [h])
      | (refine execC_split (fun h => ?_) (fun h => ?_) <;> (try simp only [h]))
      | (refine onPick_split (fun h => ?_) (fun h => ?_) <;> (try simp only [h])))
  refine callM_rel (pick_fn code k1 s1 24 hc (by omega)) rfl rfl rfl ?_
  rintro _ _ ⟨n, k2, s2, rfl, rfl, hk2, hk2', hn, hn'⟩
  have hq0 : 0 ≤ n.tdiv 11 := Int.tdiv_nonneg hn (by decide)
  have hq1 : n.tdiv 11 ≤ 2 := by
    have : n ≤ 23 := by omega
    have h2 : n.tdiv 11 = n / 11 := Int.tdiv_eq_ediv_of_nonneg hn
    omega
  have htk : (5 + n.tdiv 11).toNat ≤ 5 + 2 ∧ 5 ≤ (5 + n.tdiv 11).toNat := by omega
  have hT : ∀ b, (dl iD [1, 2, 3, 4, 50, 0, 51]).takeD b = dl iD (([1, 2, 3, 4, 50, 0, 51] : List Int).take b) := fun b => by
    unfold dl
    rw [takeD_ofL, List.map_take]
  simp only [dl, ofL, List.map, iD] at hT
  generalize hB : 5 + n.tdiv 11 = B at htk
  repeat' (first
      | (simp only [onC_true, hT, hB, ↓wA, ↓wC, wB, frzBE, frzBS, Nat.reduceEqDiff, Nat.reduceAdd, Nat.reduceSub, reduceIte, reduceCtorEq, Nat.reduceBEq, Nat.reduceLT, decide_true])
      | (with_reducible refine onC_i (by decide) ?_)
      | (with_reducible refine onC_i ?_ ?_; focus omega)
      | (with_reducible refine onI_bare ?_ ?_; focus (simp only [InR]; omega))
      | (refine onV_i fun u => ?_)
      | (refine execG_split (fun h => ?_) (fun h => ?_) <;> simp only [h])
      | (refine execC_split (fun h => ?_) (fun h => ?_) <;> (try simp only [h]))
      | (refine onPick_split (fun h => ?_) (fun h => ?_) <;> (try simp only [h])))
  refine call_frz 2 ?_
  have hU : ∀ v : List Int, (ofL (List.map iD v)).unown = ofL (List.map iD v) := ints_unown
  simp only [frz1, frzE, frzS, D.unown, hU, ↓wA, ↓wC, wB, frzBE, frzBS, Nat.reduceEqDiff, Nat.reduceAdd, Nat.reduceSub, reduceIte, reduceCtorEq, Nat.reduceBEq, Nat.reduceLT, decide_true]
  have hl : (([1, 2, 3, 4, 50, 0, 51] : List Int).take B.toNat).length = B.toNat := by simp; omega
  refine callM_rel (among_fn code k2 s2 (([1, 2, 3, 4, 50, 0, 51] : List Int).take B.toNat) hc (by omega) (by omega) (by omega)) rfl rfl rfl ?_
  rintro _ _ ⟨z, k3, s3, rfl, rfl, hk3, hk3', hz⟩
  repeat' (first
      | (simp only [onC_true, ↓wA, ↓wC, wB, frzBE, frzBS, Nat.reduceEqDiff, Nat.reduceAdd, Nat.reduceSub, reduceIte, reduceCtorEq, Nat.reduceBEq, Nat.reduceLT, decide_true])
      | (refine execG_split (fun h => ?_) (fun h => ?_) <;> simp only [h])
      | (refine execC_split (fun h => ?_) (fun h => ?_) <;> (try simp only [h]))
      | (refine onPick_split (fun h => ?_) (fun h => ?_) <;> (try simp only [h])))
  exact ⟨xs, z, rfl, ⟨hxl, hxf⟩⟩
end Go.Pe.Try

set_option maxRecDepth 100000
set_option maxHeartbeats 4000000
set_option linter.all false
namespace Go.Pe.Try
open Go.Proofs.Try
theorem rBig_fn (code : List UInt8) : Fn prog 16 [.sl false 1 (bytesD code)] (fun rs => rs = [.bool (decide ((65536 : Int) < (code.length : Int)))]) := by
  refine Fn_of' (fn := f16) (by exact func16) c16 r16 (n := 6) (by rfl) (rv := [.tmp 2]) (by rfl) (by simp) ?_
  unfold m16
  repeat' (first
      | (simp only [bytesD_len, ↓wA, ↓wC, wB, frzBE, frzBS, Nat.reduceEqDiff, Nat.reduceAdd, Nat.reduceSub, reduceIte, reduceCtorEq, Nat.reduceBEq, Nat.reduceLT, decide_true])
      | (refine execG_split (fun h => ?_) (fun h => ?_) <;> simp only [h])
      | (refine execC_split (fun h => ?_) (fun h => ?_) <;> (try simp only [h]))
      | (refine onPick_split (fun h => ?_) (fun h => ?_) <;> (try simp only [h])))
theorem rInts_refl (v : List Int) (hlen : v.length ≤ 1048576) : Fn prog 27 [.sl false 1 (dl iD v), .sl false 1 (dl iD v)] (fun rs => rs = [.bool true]) := by
  refine Fn_of' (fn := f27) (by exact func27) c27 r27 (n := 26) (by rfl) (rv := [.tmp 4]) (by rfl) (by simp) ?_
  unfold m27
  repeat' (first
      | (simp only [dl_len, ↓wA, ↓wC, wB, frzBE, frzBS, Nat.reduceEqDiff, Nat.reduceAdd, Nat.reduceSub, reduceIte, reduceCtorEq, Nat.reduceBEq, Nat.reduceLT, decide_true])
      | (refine execG_split (fun h => ?_) (fun h => ?_) <;> simp only [h])
      | (refine execC_split (fun h => ?_) (fun h => ?_) <;> (try simp only [h]))
      | (refine onPick_split (fun h => ?_) (fun h => ?_) <;> (try simp only [h])))
  refine exec_range v.length (fun i : Nat => ⟨[(0, .d (.sl false 1 (dl iD v))), (1, .d (.sl false 1 (dl iD v))), (5, .d (.int .i64 i))], []⟩) (fun _ => True) (weak_of _ rfl ⟨⟨rfl, rfl⟩, ⟨rfl, rfl⟩, ⟨rfl, rfl⟩, trivial⟩) trivial ?_ ?_
  · intro i hlt _ hd h0
    obtain ⟨r, hr⟩ := get_lt hlt
    repeat' (first
        | (simp only [dl_len, dl_nth, hd, Int.toNat_natCast, hr, Option.map_some, h0, onC_true, ↓rd_iD, ↓wA, ↓wC, wB, frzBE, frzBS, Nat.reduceEqDiff, Nat.reduceAdd, Nat.reduceSub, reduceIte, reduceCtorEq, Nat.reduceBEq, Nat.reduceLT, decide_true])
        | (with_reducible refine onI_bare ?_ ?_; focus (simp only [InR]; omega))
        | (refine execG_split (fun h => ?_) (fun h => ?_) <;> simp only [h])
        | (refine execC_split (fun h => ?_) (fun h => ?_) <;> (try simp only [h]))
        | (refine onPick_split (fun h => ?_) (fun h => ?_) <;> (try simp only [h])))
    exact ⟨i + 1, (weak_of _ rfl ⟨⟨rfl, rfl⟩, ⟨rfl, rfl⟩, ⟨rfl, rfl⟩, trivial⟩), by omega, by omega⟩
  · intro _ hd
    repeat' (first
        | (simp only [dl_len, hd, ↓wA, ↓wC, wB, frzBE, frzBS, Nat.reduceEqDiff, Nat.reduceAdd, Nat.reduceSub, reduceIte, reduceCtorEq, Nat.reduceBEq, Nat.reduceLT, decide_true])
        | (refine execG_split (fun h => ?_) (fun h => ?_) <;> simp only [h])
        | (refine execC_split (fun h => ?_) (fun h => ?_) <;> (try simp only [h]))
        | (refine onPick_split (fun h => ?_) (fun h => ?_) <;> (try simp only [h])))
theorem rHas_fn (v : List Int) (n : Int) (hlen : v.length ≤ 1048576) : Fn prog 28 [.sl false 1 (dl iD v), .int .i64 n] (fun rs => rs = [.bool (v.contains n)]) := by
  rw [← any_eq_contains]
  refine Fn_of' (fn := f28) (by exact func28) c28 r28 (n := 18) (by rfl) (rv := [.tmp 4]) (by rfl) (by simp) ?_
  unfold m28
  repeat' (first
      | (simp only [dl_len, ↓wA, ↓wC, wB, frzBE, frzBS, Nat.reduceEqDiff, Nat.reduceAdd, Nat.reduceSub, reduceIte, reduceCtorEq, Nat.reduceBEq, Nat.reduceLT, decide_true])
      | (refine execG_split (fun h => ?_) (fun h => ?_) <;> simp only [h])
      | (refine execC_split (fun h => ?_) (fun h => ?_) <;> (try simp only [h]))
      | (refine onPick_split (fun h => ?_) (fun h => ?_) <;> (try simp only [h])))
  refine exec_range v.length (fun i : Nat => ⟨[(0, .d (.sl false 1 (dl iD v))), (1, .d (.int .i64 n)), (5, .d (.int .i64 i))], []⟩) (fun i => ∀ j r, j < i → v[j]? = some r → decide (n = r) = false) (weak_of _ rfl ⟨⟨rfl, rfl⟩, ⟨rfl, rfl⟩, ⟨rfl, rfl⟩, trivial⟩) (fun j r hj => by omega) ?_ ?_
  · intro i hlt hinv hd h0
    obtain ⟨r, hr⟩ := get_lt hlt
    have hsym : decide (r = n) = decide (n = r) := decide_eq_decide.2 eq_comm
    repeat' (first
        | (simp only [dl_len, dl_nth, hd, Int.toNat_natCast, hr, Option.map_some, h0, onC_true, ↓rd_iD, hsym, ↓wA, ↓wC, wB, frzBE, frzBS, Nat.reduceEqDiff, Nat.reduceAdd, Nat.reduceSub, reduceIte, reduceCtorEq, Nat.reduceBEq, Nat.reduceLT, decide_true])
        | (with_reducible refine onI_bare ?_ ?_; focus (simp only [InR]; omega))
        | (refine execG_split (fun h => ?_) (fun h => ?_) <;> simp only [h])
        | (refine execC_split (fun h => ?_) (fun h => ?_) <;> (try simp only [h]))
        | (refine onPick_split (fun h => ?_) (fun h => ?_) <;> (try simp only [h])))
    · have : v.any (fun x => decide (n = x)) = true := List.any_eq_true.2 ⟨r, List.mem_of_getElem? hr, h⟩
      rw [this]
    · refine next_range (weak_of _ rfl ⟨⟨rfl, rfl⟩, ⟨rfl, rfl⟩, ⟨rfl, rfl⟩, trivial⟩) hlt fun j s hj hs => ?_
      by_cases e : j = i
      · subst e; rw [hr] at hs; injection hs with hs; rw [← hs]; exact h
      · exact hinv j s (by omega) hs
  · intro hinv hd
    have : v.any (fun x => decide (n = x)) = false := by
      rw [List.any_eq_false]
      intro x hx
      obtain ⟨j, hj⟩ := List.getElem?_of_mem hx
      simp [hinv j x (lt_of_get hj) hj]
    rw [this]
    repeat' (first
        | (simp only [dl_len, hd, ↓wA, ↓wC, wB, frzBE, frzBS, Nat.reduceEqDiff, Nat.reduceAdd, Nat.reduceSub, reduceIte, reduceCtorEq, Nat.reduceBEq, Nat.reduceLT, decide_true])
        | (refine execG_split (fun h => ?_) (fun h => ?_) <;> simp only [h])
        | (refine execC_split (fun h => ?_) (fun h => ?_) <;> (try simp only [h]))
        | (refine onPick_split (fun h => ?_) (fun h => ?_) <;> (try simp only [h])))
theorem rAppeals_refl (xs : List App) (hlen : xs.length ≤ 1048576) (hx : ∀ x ∈ xs, x.ok0) : Fn prog 38 [.sl false 6 (appsD xs), .sl false 6 (appsD xs)] (fun rs => rs = [.bool true]) := by
  refine Fn_of' (fn := f38) (by exact func38) c38 r38 (n := 95) (by rfl) (rv := [.tmp 4]) (by rfl) (by simp) ?_
  unfold m38
  repeat' (first
      | (simp only [dl_len, ↓wA, ↓wC, wB, frzBE, frzBS, Nat.reduceEqDiff, Nat.reduceAdd, Nat.reduceSub, reduceIte, reduceCtorEq, Nat.reduceBEq, Nat.reduceLT, decide_true])
      | (refine execG_split (fun h => ?_) (fun h => ?_) <;> simp only [h])
      | (refine execC_split (fun h => ?_) (fun h => ?_) <;> (try simp only [h]))
      | (refine onPick_split (fun h => ?_) (fun h => ?_) <;> (try simp only [h])))
  refine exec_range xs.length (fun i : Nat => ⟨[(0, .d (.sl false 6 (appsD xs))), (1, .d (.sl false 6 (appsD xs))), (5, .d (.int .i64 i))], []⟩) (fun _ => True) (weak_of _ rfl ⟨⟨rfl, rfl⟩, ⟨rfl, rfl⟩, ⟨rfl, rfl⟩, trivial⟩) trivial ?_ ?_
  · intro i hlt _ hd h0
    obtain ⟨x, hr⟩ := get_lt hlt
    have hxo := hx x (List.mem_of_getElem? hr)
    have h1 := rInts_refl x.a hxo.1
    have h2 := rInts_refl x.h hxo.2
    repeat' (first
        | (simp only [dl_len, dl_nth, hd, Int.toNat_natCast, hr, Option.map_some, h0, onC_true, ↓fa_app0, ↓fa_app1, ↓fa_app2, ↓fa_app3, ↓fa_app4, ↓fa_app5, ints_noOwn, ↓wA, ↓wC, wB, frzBE, frzBS, Nat.reduceEqDiff, Nat.reduceAdd, Nat.reduceSub, reduceIte, reduceCtorEq, Nat.reduceBEq, Nat.reduceLT, decide_true])
        | (refine call_det (h1) rfl rfl ?_)
        | (refine callP_det (h1) rfl rfl ?_)
        | (refine call_det (h2) rfl rfl ?_)
        | (refine callP_det (h2) rfl rfl ?_)
        | (with_reducible refine onI_bare ?_ ?_; focus (simp only [InR]; omega))
        | (refine execG_split (fun h => ?_) (fun h => ?_) <;> simp only [h])
        | (refine execC_split (fun h => ?_) (fun h => ?_) <;> (try simp only [h]))
        | (refine onPick_split (fun h => ?_) (fun h => ?_) <;> (try simp only [h])))
    exact ⟨i + 1, (weak_of _ rfl ⟨⟨rfl, rfl⟩, ⟨rfl, rfl⟩, ⟨rfl, rfl⟩, trivial⟩), by omega, by omega⟩
  · intro _ hd
    repeat' (first
        | (simp only [dl_len, hd, ↓wA, ↓wC, wB, frzBE, frzBS, Nat.reduceEqDiff, Nat.reduceAdd, Nat.reduceSub, reduceIte, reduceCtorEq, Nat.reduceBEq, Nat.reduceLT, decide_true])
        | (refine execG_split (fun h => ?_) (fun h => ?_) <;> simp only [h])
        | (refine execC_split (fun h => ?_) (fun h => ?_) <;> (try simp only [h]))
        | (refine onPick_split (fun h => ?_) (fun h => ?_) <;> (try simp only [h])))
end Go.Pe.Try

set_option linter.all false
namespace Go.Pe.Try
open Go.Proofs.Try
/-- what makes a list good, place by place. -/
def goodP (xs : List App) : Prop := xs.length ≤ 10 ∧ ∀ (i : Nat) (x : App), xs[i]? = some x → okA x = true ∧ (∀ j y, i = j + 1 → xs[j]? = some y → y.i < x.i) ∧ (pend x = true → ∀ j y, j < i → xs[j]? = some y → pend y = true → y.q ≠ x.q)
theorem goodP_iff (xs : List App) : goodA xs = true ↔ goodP xs := by
  unfold goodA goodP
  rw [Bool.and_eq_true, decide_eq_true_eq, List.all_eq_true]
  constructor
  · rintro ⟨h1, h2⟩
    refine ⟨by omega, fun i x hi => ?_⟩
    have h3 := h2 i (List.mem_range.2 (lt_of_get hi))
    rw [stepA_at hi, Bool.and_eq_true, Bool.and_eq_true] at h3
    obtain ⟨⟨h4, h5⟩, h6⟩ := h3
    refine ⟨h4, fun j y hj hy => ?_, fun hp j y hj hy hq he => ?_⟩
    · subst hj
      simp only [ltA, hy] at h5
      exact of_decide_eq_true h5
    · rw [hp, Bool.true_and, Bool.not_eq_true', List.any_eq_false] at h6
      refine h6 y ?_ (by simp [sameA, he, hq])
      rw [List.mem_iff_getElem?]
      exact ⟨j, by rw [List.getElem?_take, if_pos hj]; exact hy⟩
  · rintro ⟨h1, h2⟩
    refine ⟨by omega, fun i hi => ?_⟩
    obtain ⟨x, hx⟩ := get_lt (List.mem_range.1 hi)
    obtain ⟨h3, h4, h5⟩ := h2 i x hx
    rw [stepA_at hx, h3, Bool.true_and, Bool.and_eq_true]
    constructor
    · cases i with
      | zero => rfl
      | succ j =>
        simp only [ltA]
        split
        · rfl
        · rename_i y hy
          exact decide_eq_true (h4 j y rfl hy)
    · cases hp : pend x with
      | false => rfl
      | true =>
        rw [Bool.true_and, Bool.not_eq_true', List.any_eq_false]
        intro y hy hs
        obtain ⟨j, hj⟩ := List.getElem?_of_mem hy
        rw [List.getElem?_take] at hj
        split at hj
        · rename_i hji
          simp only [sameA, Bool.and_eq_true, decide_eq_true_eq] at hs
          exact h5 hp j y hji hj hs.2 hs.1
        · cases hj
/-- of like lists both are good. -/
theorem good_like {xs ys : List App} (hg : goodA xs = true) (hl : ys.length = xs.length) (h : ∀ (i : Nat) (x y : App), xs[i]? = some x → ys[i]? = some y → y.i = x.i ∧ y.q = x.q ∧ okA y = true ∧ (pend y = true → pend x = true)) : goodA ys = true := by
  rw [goodP_iff] at hg ⊢
  obtain ⟨h1, h2⟩ := hg
  have tw : ∀ {j : Nat} {y : App}, ys[j]? = some y → ∃ x, xs[j]? = some x := fun hy => get_lt (by have := lt_of_get hy; omega)
  refine ⟨by omega, fun i y hy => ?_⟩
  obtain ⟨x, hx⟩ := tw hy
  obtain ⟨a1, a2, a3, a4⟩ := h i x y hx hy
  obtain ⟨b1, b2, b3⟩ := h2 i x hx
  refine ⟨a3, fun j z hj hz => ?_, fun hp j z hj hz hq => ?_⟩
  · obtain ⟨w, hw⟩ := tw hz
    obtain ⟨c1, _⟩ := h j w z hw hz
    rw [c1, a1]
    exact b2 j w hj hw
  · obtain ⟨w, hw⟩ := tw hz
    obtain ⟨_, c2, _, c4⟩ := h j w z hw hz
    rw [c2, a2]
    exact b3 (a4 hp) j w hj hw (c4 hq)
theorem good_map {xs : List App} {f : App → App} (hg : goodA xs = true) (h : ∀ x ∈ xs, okA x = true → (f x).i = x.i ∧ (f x).q = x.q ∧ okA (f x) = true ∧ (pend (f x) = true → pend x = true)) : goodA (xs.map f) = true := by
  refine good_like hg (by simp) fun j a b ha hb => ?_
  rw [List.getElem?_map, ha] at hb
  injection hb with hb
  subst hb
  exact h a (List.mem_of_getElem? ha) (((goodP_iff xs).1 hg).2 j a ha).1
theorem good_inc {xs : List App} (hg : goodA xs = true) : ∀ (k m : Nat) (a b : App), m < k → xs[m]? = some a → xs[k]? = some b → a.i < b.i
  | 0, m, a, b, hm, _, _ => by omega
  | k + 1, m, a, b, hm, ha, hb => by
    have hG := ((goodP_iff xs).1 hg).2
    by_cases e : m = k
    · subst e; exact (hG (m + 1) b hb).2.1 m a rfl ha
    · obtain ⟨c, hc⟩ := get_lt (show k < xs.length by have := lt_of_get hb; omega)
      have h1 := good_inc hg k m a c (by omega) ha hc
      have h2 := (hG (k + 1) b hb).2.1 k c rfl hc
      omega
theorem find_of {xs : List App} {i : Nat} {x : App} (hg : goodA xs = true) (hx : xs[i]? = some x) : findA xs x.i = (i : Int) := by
  unfold findA
  refine idxOf_hit hx (by simp) fun j s hj hs => ?_
  have := good_inc hg i j s x hj hs hx
  exact decide_eq_false (by omega)
theorem uniq_of {xs : List App} {x y : App} (hg : goodA xs = true) (hx : x ∈ xs) (hy : y ∈ xs) (h : x.i = y.i) : x = y := by
  obtain ⟨i, hi⟩ := List.getElem?_of_mem hx
  obtain ⟨j, hj⟩ := List.getElem?_of_mem hy
  rcases Nat.lt_trichotomy i j with hlt | hlt | hlt
  · have := good_inc hg j i x y hlt hi hj; omega
  · subst hlt; rw [hi] at hj; injection hj
  · have := good_inc hg i j y x hlt hj hi; omega
end Go.Pe.Try

set_option linter.all false
namespace Go.Pe.Try
open Go.Proofs.Try
theorem okA_iff (x : App) : okA x = true ↔ within x.i 1 999 = true ∧ within x.q 1 999 = true ∧ within x.d 0 20000 = true ∧ within x.s 0 4 = true ∧ (!decide (6 < (x.a.length : Int))) = true ∧ rises x.a = true ∧ rises x.h = true ∧ (x.a.all (fun n => within n 1 50)) = true ∧ (x.h.all (fun n => x.a.contains n)) = true ∧ (decide ((x.h.length : Int) < (x.a.length : Int)) == (decide (x.s = 0) || decide (x.s = 4))) = true := by
  unfold okA
  simp only [Bool.and_eq_true, and_assoc]
theorem wait_iff {x : App} {p : Int} : waitA x p = true ↔ x.s = 0 ∧ p ∈ x.a ∧ p ∉ x.h := by
  unfold waitA
  rw [Bool.and_eq_true, Bool.and_eq_true, decide_eq_true_eq, List.contains_iff_mem, Bool.not_eq_true', and_assoc]
  constructor
  · rintro ⟨h1, h2, h3⟩
    exact ⟨h1, h2, fun h => by rw [List.contains_iff_mem.2 h] at h3; cases h3⟩
  · rintro ⟨h1, h2, h3⟩
    refine ⟨h1, h2, ?_⟩
    cases hc : x.h.contains p with
    | false => rfl
    | true => exact absurd (List.contains_iff_mem.1 hc) h3
theorem open_lt {x : App} (hx : okA x = true) (hs : x.s = 0 ∨ x.s = 4) : x.h.length < x.a.length := by
  have h := ((okA_iff x).1 hx).2.2.2.2.2.2.2.2.2
  have : (decide (x.s = 0) || decide (x.s = 4)) = true := by
    rcases hs with hs | hs <;> simp [hs]
  rw [this, beq_true] at h
  have := of_decide_eq_true h
  omega
theorem okA_lap {x : App} {day : Int} (hx : okA x = true) : okA (lap day x) = true := by
  unfold lap
  split
  · rename_i h
    have hs : x.s = 0 := by
      simp only [lapB, Bool.and_eq_true, decide_eq_true_eq] at h
      exact h.1
    have hlt := open_lt hx (.inl hs)
    obtain ⟨h1, h2, h3, h4, h5, h6, h7, h8, h9, h10⟩ := (okA_iff x).1 hx
    refine (okA_iff _).2 ⟨h1, h2, h3, rfl, h5, h6, h7, h8, h9, ?_⟩
    show (decide ((x.h.length : Int) < (x.a.length : Int)) == true) = true
    rw [decide_eq_true (show (x.h.length : Int) < (x.a.length : Int) by omega)]
    rfl
  · exact hx
/-- who waits was not heard. -/
theorem wait_law {xs : List App} {p : Int} (h : waitOK xs p = true) {id : Int} (hid : id ∈ waitIds xs p) : ∃ u, nhR xs id = some u ∧ u.contains p = true := by
  rw [waitOK, Bool.and_eq_true] at h
  obtain ⟨hg, _⟩ := h
  have hmem : ∀ (L acc : List App) (y : App), y ∈ L.foldl (fun acc x => insA x acc) acc → y ∈ acc ∨ y ∈ L := by
    intro L
    induction L with
    | nil => intro acc y hy; exact .inl hy
    | cons a L ih =>
      intro acc y hy
      rcases ih _ y hy with h1 | h1
      · rcases insA_mem h1 with h2 | h2
        · exact .inr (by simp [h2])
        · exact .inl h2
      · exact .inr (List.mem_cons_of_mem _ h1)
  obtain ⟨x, hx, rfl⟩ := List.mem_map.1 hid
  have hx : x ∈ waitL xs p := by
    rcases hmem _ _ x hx with h1 | h1
    · cases h1
    · exact h1
  obtain ⟨hxm, hw⟩ := List.mem_filter.1 hx
  obtain ⟨i, hi⟩ := List.getElem?_of_mem hxm
  obtain ⟨hs, hpa, hph⟩ := wait_iff.1 hw
  refine ⟨leftA x, by rw [nhR_at (find_of hg hi) hi, if_pos hg], ?_⟩
  rw [List.contains_iff_mem]
  refine List.mem_filter.2 ⟨hpa, ?_⟩
  cases hc : x.h.contains p with
  | false => show (!x.h.contains p) = true; rw [hc]; rfl
  | true => exact absurd (List.contains_iff_mem.1 hc) hph
/-- lapsing twice on a day is lapsing once. -/
theorem lap_law {xs : List App} {day : Int} (hg : goodA xs = true) : goodA (xs.map (lap day)) = true ∧ (xs.map (lap day)).map (lap day) = xs.map (lap day) ∧ lapIds day (xs.map (lap day)) = [] := by
  have hB : ∀ x : App, lapB day (lap day x) = false := by
    intro x
    unfold lap
    split
    · rfl
    · rename_i h; simpa using h
  refine ⟨good_map hg fun x _ hx => ⟨?_, ?_, okA_lap hx, ?_⟩, ?_, ?_⟩
  · unfold lap; split <;> rfl
  · unfold lap; split <;> rfl
  · unfold lap
    split
    · intro h; cases h
    · exact id
  · rw [List.map_map]
    refine List.map_congr_left fun x _ => ?_
    show lap day (lap day x) = lap day x
    have no : ∀ y : App, lapB day y = false → lap day y = y := fun y h => by unfold lap; rw [h]; rfl
    exact no _ (hB x)
  · unfold lapIds
    rw [List.filter_eq_nil_iff.2, List.map_nil]
    intro x hx
    obtain ⟨y, _, rfl⟩ := List.mem_map.1 hx
    rw [hB y]
    simp
/-- an appeal with no day left lapses on the next one. -/
theorem days_law {xs : List App} {id on : Int} : ∃ (m : Int) (b : Bool), daysR xs id on = [.int .i64 m, .bool b] ∧ 0 ≤ m ∧ m ≤ 60 ∧ (b = true → (lapIds (on + 1) xs).contains id = decide (m = 0)) := by
  rcases find_cases xs id with ⟨_, hn'⟩ | ⟨i, x, hi, hr, hid⟩
  · exact ⟨0, false, daysR_neg hn', by omega, by omega, fun h => by cases h⟩
  rw [daysR_at hi hr]
  split
  case isFalse => exact ⟨0, false, rfl, by omega, by omega, fun h => by cases h⟩
  rename_i hok
  simp only [dlOK, Bool.and_eq_true, decide_eq_true_eq] at hok
  obtain ⟨⟨⟨hg, hs⟩, _⟩, hd⟩ := hok
  refine ⟨_, true, rfl, by omega, by omega, fun _ => ?_⟩
  have hxm := List.mem_of_getElem? hr
  have hiff : (lapIds (on + 1) xs).contains id = lapB (on + 1) x := by
    cases hb : lapB (on + 1) x with
    | true => exact List.contains_iff_mem.2 (List.mem_map.2 ⟨x, List.mem_filter.2 ⟨hxm, hb⟩, hid⟩)
    | false =>
      cases hc : (lapIds (on + 1) xs).contains id with
      | false => rfl
      | true =>
        obtain ⟨y, hy, hyi⟩ := List.mem_map.1 (List.contains_iff_mem.1 hc)
        obtain ⟨hym, hyb⟩ := List.mem_filter.1 hy
        have := uniq_of hg hym hxm (by omega)
        rw [this, hb] at hyb
        cases hyb
  rw [hiff, lapB, hs]
  simp only [decide_true, Bool.true_and]
  exact decide_eq_decide.2 (by omega)
theorem won_law (xs : List App) : ∃ (m n : Int) (b : Bool), wonR xs = [.int .i64 m, .int .i64 n, .bool b] ∧ (b = true → m ≤ n) := by
  unfold wonR
  split
  · rename_i hc
    refine ⟨_, _, true, rfl, fun _ => ?_⟩
    have h := isWon_le xs
    simp only [Bool.and_eq_true, Bool.not_eq_true', decide_eq_false_iff_not] at hc
    have hg := Nat.gcd_pos_of_pos_right (xs.countP isWon) (show 0 < xs.countP isDone by omega)
    exact Int.tdiv_le_tdiv (by omega) (by omega)
  · exact ⟨0, 0, false, rfl, fun h => by cases h⟩
end Go.Pe.Try

set_option maxRecDepth 100000
set_option maxHeartbeats 4000000
set_option linter.all false
namespace Go.Pe.Try
open Go.Proofs.Try
structure Held (p : Prop) : Prop where
  out : p
theorem cutT {G : Prop} (T : Prop) (m : Held T → G) (r : T) : G := m ⟨r⟩
theorem drawn_ok {xs : List App} (h : drawnL xs) : xs.length ≤ 1048576 ∧ ∀ x ∈ xs, x.ok0 := ⟨by have := h.1; omega, fun x hx => App.few_ok (h.2 x hx)⟩
theorem nhR_bd {xs : List App} {id : Int} {v : List Int} (hx : ∀ x ∈ xs, x.ok0) (h : nhR xs id = some v) : v.length ≤ 1048576 := by
  unfold nhR at h
  split at h
  · rename_i x hr
    split at h
    · injection h with h
      subst h
      exact Nat.le_trans (List.length_filter_le _ _) (hx x (List.mem_of_getElem? hr)).1
    · cases h
  · cases h
end Go.Pe.Try

set_option linter.all false
namespace Go.Pe.Try
open Go.Proofs.Try
theorem byte_of (x : D) (h : Typed (.int .u8) x) : ∃ b : UInt8, x = .int .u8 (b.toNat : Int) ∧ True := by
  obtain ⟨n, rfl, hn⟩ := h
  have hr : 0 ≤ n ∧ n ≤ 255 := by
    simp only [Lit.wf, Bool.and_eq_true, decide_eq_true_eq] at hn
    exact hn
  refine ⟨UInt8.ofNat n.toNat, ?_, trivial⟩
  have : (UInt8.ofNat n.toNat).toNat = n.toNat := by
    rw [UInt8.toNat_ofNat']
    omega
  rw [this, Int.toNat_of_nonneg hr.1]
theorem bytes_of (x : D) (h : Typed (.sl 1 (.int .u8)) x) : ∃ code : List UInt8, x = .sl false 1 (bytesD code) := by
  obtain ⟨ds, rfl, h1, h2⟩ := h
  obtain ⟨ys, h3, _, _⟩ := typed_list (f := fun b : UInt8 => D.int .u8 (b.toNat : Int)) (P := fun _ => True) byte_of ds h2
  exact ⟨ys, by rw [h3, bytesD_dl]⟩
end Go.Pe.Try
