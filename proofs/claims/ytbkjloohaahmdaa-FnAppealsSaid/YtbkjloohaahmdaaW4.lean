/- The draws of appeals; What the laws compare by, walked; What the laws of appeals say, in plain lists; What the laws of appeals say, in plain lists: each law; The law of appeals, walked -/
import Derived.Test.YtbkjloohaahmdaaW3
import Derived.Test.YtbkjloohaahmdaaW1
import Derived.Test.YtbkjloohaahmdaaW2
set_option maxRecDepth 100000
set_option maxHeartbeats 4000000
set_option linter.all false
namespace Go.Pe.Try
open Go.Proofs.Try
/-- a drawn list. -/
def drawnL (xs : List App) : Prop := xs.length ≤ 12 ∧ ∀ x ∈ xs, x.few
theorem drawAre_fn (code : List UInt8) (hc : code.length ≤ 1048576) : Fn prog 101 [.sl false 1 (bytesD code)] (fun rs => ∃ xs : List App, rs = [.sl false 6 (appsD xs)] ∧ drawnL xs) := by
  refine Fn_of' (fn := f101) (by exact func101) c101 r101 (n := 9) (by rfl) (rv := [.tmp 2]) (by rfl) (by simp) ?_
  unfold m101
  repeat' (first
      | (simp only [onC_true, bytes_noOwn, ↓wA, ↓wC, wB, frzBE, frzBS, Nat.reduceEqDiff, Nat.reduceAdd, Nat.reduceSub, reduceIte, reduceCtorEq, Nat.reduceBEq, Nat.reduceLT, decide_true, sz66])
      | (refine execG_split (fun h => ?_) (fun h => ?_) <;> simp only [h])
      | (refine execC_split (fun h => ?_) (fun h => ?_) <;> (try simp only [h]))
      | (refine onPick_split (fun h => ?_) (fun h => ?_) <;> (try simp only [h])))
  refine callM_rel (appeals_fn code 0 0 hc (by omega)) rfl rfl rfl ?_
  rintro _ _ ⟨xs, k1, s1, rfl, rfl, hk1, hk1', hxl, hxf⟩
  have hno := apps_noOwn xs
  simp only [hno, ↓wA, ↓wC, wB, frzBE, frzBS, Nat.reduceEqDiff, Nat.reduceAdd, Nat.reduceSub, reduceIte, reduceCtorEq, Nat.reduceBEq, Nat.reduceLT, decide_true, sz66]
  repeat' (first
      | (simp only [onC_true, hno, ↓wA, ↓wC, wB, frzBE, frzBS, Nat.reduceEqDiff, Nat.reduceAdd, Nat.reduceSub, reduceIte, reduceCtorEq, Nat.reduceBEq, Nat.reduceLT, decide_true, sz66])
      | (refine execG_split (fun h => ?_) (fun h => ?_) <;> simp only [h])
      | (refine execC_split (fun h => ?_) (fun h => ?_) <;> (try simp only [h]))
      | (refine onPick_split (fun h => ?_) (fun h => ?_) <;> (try simp only [h])))
  exact ⟨xs, rfl, hxl, hxf⟩
theorem drawBusiest_fn (code : List UInt8) (hc : code.length ≤ 1048576) : Fn prog 42 [.sl false 1 (bytesD code)] (fun rs => ∃ xs : List App, rs = [.sl false 6 (appsD xs)] ∧ drawnL xs) := by
  refine Fn_of' (fn := f42) (by exact func42) c42 r42 (n := 5) (by rfl) (rv := [.tmp 2]) (by rfl) (by simp) ?_
  unfold m42
  repeat' (first
      | (simp only [onC_true, ↓wA, ↓wC, wB, frzBE, frzBS, Nat.reduceEqDiff, Nat.reduceAdd, Nat.reduceSub, reduceIte, reduceCtorEq, Nat.reduceBEq, Nat.reduceLT, decide_true, sz66])
      | (refine execG_split (fun h => ?_) (fun h => ?_) <;> simp only [h])
      | (refine execC_split (fun h => ?_) (fun h => ?_) <;> (try simp only [h]))
      | (refine onPick_split (fun h => ?_) (fun h => ?_) <;> (try simp only [h])))
  refine call_rel (drawAre_fn code hc) rfl fun rs h => ?_
  obtain ⟨xs, rfl, hx⟩ := h
  have hno := apps_noOwn xs
  repeat' (first
      | (simp only [hno, ↓wA, ↓wC, wB, frzBE, frzBS, Nat.reduceEqDiff, Nat.reduceAdd, Nat.reduceSub, reduceIte, reduceCtorEq, Nat.reduceBEq, Nat.reduceLT, decide_true, sz66])
      | (refine execG_split (fun h => ?_) (fun h => ?_) <;> simp only [h])
      | (refine execC_split (fun h => ?_) (fun h => ?_) <;> (try simp only [h]))
      | (refine onPick_split (fun h => ?_) (fun h => ?_) <;> (try simp only [h])))
  exact ⟨.inl rfl, xs, rfl, hx⟩
theorem drawIs_fn (code : List UInt8) (hc : code.length ≤ 1048576) : Fn prog 58 [.sl false 1 (bytesD code)] (fun rs => ∃ x : App, rs = [x.d'] ∧ x.few) := by
  refine Fn_of' (fn := f58) (by exact func58) c58 r58 (n := 12) (by rfl) (rv := [.cell 2 66]) (by rfl) (by simp) ?_
  unfold m58
  repeat' (first
      | (simp only [onC_true, bytes_noOwn, ↓wA, ↓wC, wB, frzBE, frzBS, Nat.reduceEqDiff, Nat.reduceAdd, Nat.reduceSub, reduceIte, reduceCtorEq, Nat.reduceBEq, Nat.reduceLT, decide_true, sz66])
      | (refine execG_split (fun h => ?_) (fun h => ?_) <;> simp only [h])
      | (refine execC_split (fun h => ?_) (fun h => ?_) <;> (try simp only [h]))
      | (refine onPick_split (fun h => ?_) (fun h => ?_) <;> (try simp only [h])))
  refine call_frz 2 ?_
  simp only [frz1, frzE, frzS, D.unown, ↓wA, ↓wC, wB, frzBE, frzBS, Nat.reduceEqDiff, Nat.reduceAdd, Nat.reduceSub, reduceIte, reduceCtorEq, Nat.reduceBEq, Nat.reduceLT, decide_true, sz66]
  refine callM_rel (among_fn code 0 0 [1, 42, 999] hc (by omega) (by decide) (by decide)) rfl rfl rfl ?_
  rintro _ _ ⟨z, k1, s1, rfl, rfl, hk1, hk1', hz⟩
  repeat' (first
      | (simp only [onC_true, ↓wA, ↓wC, wB, frzBE, frzBS, Nat.reduceEqDiff, Nat.reduceAdd, Nat.reduceSub, reduceIte, reduceCtorEq, Nat.reduceBEq, Nat.reduceLT, decide_true, sz66])
      | (refine execG_split (fun h => ?_) (fun h => ?_) <;> simp only [h])
      | (refine execC_split (fun h => ?_) (fun h => ?_) <;> (try simp only [h]))
      | (refine onPick_split (fun h => ?_) (fun h => ?_) <;> (try simp only [h])))
  refine callM_rel (appeal_fn code k1 s1 z hc (by omega)) rfl rfl rfl ?_
  rintro _ _ ⟨x, k2, s2, rfl, rfl, hk2, hk2', hxa, hxh⟩
  repeat' (first
      | (simp only [onC_true, d_noOwn, oa_size, oa_isV, App.noOwn, ↓wA, ↓wC, wB, frzBE, frzBS, Nat.reduceEqDiff, Nat.reduceAdd, Nat.reduceSub, reduceIte, reduceCtorEq, Nat.reduceBEq, Nat.reduceLT, decide_true, sz66])
      | (refine execG_split (fun h => ?_) (fun h => ?_) <;> simp only [h])
      | (refine execC_split (fun h => ?_) (fun h => ?_) <;> (try simp only [h]))
      | (refine onPick_split (fun h => ?_) (fun h => ?_) <;> (try simp only [h])))
  refine onC_i rfl ?_
  exact ⟨_, rfl, x, rfl, hxa, hxh⟩
theorem drawLapse_fn (code : List UInt8) (hc : code.length ≤ 1048576) : Fn prog 35 [.sl false 1 (bytesD code)] (fun rs => ∃ (xs : List App) (day : Int), rs = [.sl false 6 (appsD xs), .int .i64 day] ∧ drawnL xs ∧ -1 ≤ day ∧ day ≤ 20001) := by
  refine Fn_of' (fn := f35) (by exact func35) c35 r35 (n := 14) (by rfl) (rv := [.tmp 2, .tmp 3]) (by rfl) (by simp) ?_
  unfold m35
  repeat' (first
      | (simp only [onC_true, bytes_noOwn, ↓wA, ↓wC, wB, frzBE, frzBS, Nat.reduceEqDiff, Nat.reduceAdd, Nat.reduceSub, reduceIte, reduceCtorEq, Nat.reduceBEq, Nat.reduceLT, decide_true, sz66])
      | (refine execG_split (fun h => ?_) (fun h => ?_) <;> simp only [h])
      | (refine execC_split (fun h => ?_) (fun h => ?_) <;> (try simp only [h]))
      | (refine onPick_split (fun h => ?_) (fun h => ?_) <;> (try simp only [h])))
  refine callM_rel (appeals_fn code 0 0 hc (by omega)) rfl rfl rfl ?_
  rintro _ _ ⟨xs, k1, s1, rfl, rfl, hk1, hk1', hxl, hxf⟩
  have hno := apps_noOwn xs
  simp only [hno, ↓wA, ↓wC, wB, frzBE, frzBS, Nat.reduceEqDiff, Nat.reduceAdd, Nat.reduceSub, reduceIte, reduceCtorEq, Nat.reduceBEq, Nat.reduceLT, decide_true, sz66]
  repeat' (first
      | (simp only [onC_true, hno, ↓wA, ↓wC, wB, frzBE, frzBS, Nat.reduceEqDiff, Nat.reduceAdd, Nat.reduceSub, reduceIte, reduceCtorEq, Nat.reduceBEq, Nat.reduceLT, decide_true, sz66])
      | (refine execG_split (fun h => ?_) (fun h => ?_) <;> simp only [h])
      | (refine execC_split (fun h => ?_) (fun h => ?_) <;> (try simp only [h]))
      | (refine onPick_split (fun h => ?_) (fun h => ?_) <;> (try simp only [h])))
  refine callM_rel (day24_fn code k1 s1 hc (by omega)) rfl rfl rfl ?_
  rintro _ _ ⟨d, k2, s2, rfl, rfl, hk2, hk2', hd1, hd2⟩
  repeat' (first
      | (simp only [onC_true, ↓wA, ↓wC, wB, frzBE, frzBS, Nat.reduceEqDiff, Nat.reduceAdd, Nat.reduceSub, reduceIte, reduceCtorEq, Nat.reduceBEq, Nat.reduceLT, decide_true, sz66])
      | (refine execG_split (fun h => ?_) (fun h => ?_) <;> simp only [h])
      | (refine execC_split (fun h => ?_) (fun h => ?_) <;> (try simp only [h]))
      | (refine onPick_split (fun h => ?_) (fun h => ?_) <;> (try simp only [h])))
  exact ⟨xs, d, rfl, ⟨hxl, hxf⟩, hd1, hd2⟩
theorem drawNot_fn (code : List UInt8) (hc : code.length ≤ 1048576) : Fn prog 57 [.sl false 1 (bytesD code)] (fun rs => ∃ (xs : List App) (id : Int), rs = [.sl false 6 (appsD xs), .int .i64 id] ∧ drawnL xs) := by
  refine Fn_of' (fn := f57) (by exact func57) c57 r57 (n := 15) (by rfl) (rv := [.tmp 2, .tmp 3]) (by rfl) (by simp) ?_
  unfold m57
  repeat' (first
      | (simp only [onC_true, bytes_noOwn, ↓wA, ↓wC, wB, frzBE, frzBS, Nat.reduceEqDiff, Nat.reduceAdd, Nat.reduceSub, reduceIte, reduceCtorEq, Nat.reduceBEq, Nat.reduceLT, decide_true, sz66])
      | (refine execG_split (fun h => ?_) (fun h => ?_) <;> simp only [h])
      | (refine execC_split (fun h => ?_) (fun h => ?_) <;> (try simp only [h]))
      | (refine onPick_split (fun h => ?_) (fun h => ?_) <;> (try simp only [h])))
  refine callM_rel (appeals_fn code 0 0 hc (by omega)) rfl rfl rfl ?_
  rintro _ _ ⟨xs, k1, s1, rfl, rfl, hk1, hk1', hxl, hxf⟩
  have hno := apps_noOwn xs
  simp only [hno, ↓wA, ↓wC, wB, frzBE, frzBS, Nat.reduceEqDiff, Nat.reduceAdd, Nat.reduceSub, reduceIte, reduceCtorEq, Nat.reduceBEq, Nat.reduceLT, decide_true, sz66]
  repeat' (first
      | (simp only [onC_true, hno, ↓wA, ↓wC, wB, frzBE, frzBS, Nat.reduceEqDiff, Nat.reduceAdd, Nat.reduceSub, reduceIte, reduceCtorEq, Nat.reduceBEq, Nat.reduceLT, decide_true, sz66])
      | (refine execG_split (fun h => ?_) (fun h => ?_) <;> simp only [h])
      | (refine execC_split (fun h => ?_) (fun h => ?_) <;> (try simp only [h]))
      | (refine onPick_split (fun h => ?_) (fun h => ?_) <;> (try simp only [h])))
  refine callM_rel (appealId_fn code k1 s1 xs 0 hc (by omega) hxl) rfl rfl rfl ?_
  rintro _ _ ⟨d, k2, s2, rfl, rfl, hk2, hk2', hd1⟩
  repeat' (first
      | (simp only [onC_true, ↓wA, ↓wC, wB, frzBE, frzBS, Nat.reduceEqDiff, Nat.reduceAdd, Nat.reduceSub, reduceIte, reduceCtorEq, Nat.reduceBEq, Nat.reduceLT, decide_true, sz66])
      | (refine execG_split (fun h => ?_) (fun h => ?_) <;> simp only [h])
      | (refine execC_split (fun h => ?_) (fun h => ?_) <;> (try simp only [h]))
      | (refine onPick_split (fun h => ?_) (fun h => ?_) <;> (try simp only [h])))
  exact ⟨xs, d, rfl, ⟨hxl, hxf⟩⟩
theorem drawDecide_fn (code : List UInt8) (hc : code.length ≤ 1048576) : Fn prog 55 [.sl false 1 (bytesD code)] (fun rs => ∃ (xs : List App) (id : Int) (b : Bool), rs = [.sl false 6 (appsD xs), .int .i64 id, .bool b] ∧ drawnL xs) := by
  refine Fn_of' (fn := f55) (by exact func55) c55 r55 (n := 18) (by rfl) (rv := [.tmp 2, .tmp 3, .tmp 4]) (by rfl) (by simp) ?_
  unfold m55
  repeat' (first
      | (simp only [onC_true, bytes_noOwn, ↓wA, ↓wC, wB, frzBE, frzBS, Nat.reduceEqDiff, Nat.reduceAdd, Nat.reduceSub, reduceIte, reduceCtorEq, Nat.reduceBEq, Nat.reduceLT, decide_true, sz66])
      | (refine execG_split (fun h => ?_) (fun h => ?_) <;> simp only [h])
      | (refine execC_split (fun h => ?_) (fun h => ?_) <;> (try simp only [h]))
      | (refine onPick_split (fun h => ?_) (fun h => ?_) <;> (try simp only [h])))
  refine callM_rel (appeals_fn code 0 0 hc (by omega)) rfl rfl rfl ?_
  rintro _ _ ⟨xs, k1, s1, rfl, rfl, hk1, hk1', hxl, hxf⟩
  have hno := apps_noOwn xs
  simp only [hno, ↓wA, ↓wC, wB, frzBE, frzBS, Nat.reduceEqDiff, Nat.reduceAdd, Nat.reduceSub, reduceIte, reduceCtorEq, Nat.reduceBEq, Nat.reduceLT, decide_true, sz66]
  repeat' (first
      | (simp only [onC_true, hno, ↓wA, ↓wC, wB, frzBE, frzBS, Nat.reduceEqDiff, Nat.reduceAdd, Nat.reduceSub, reduceIte, reduceCtorEq, Nat.reduceBEq, Nat.reduceLT, decide_true, sz66])
      | (refine execG_split (fun h => ?_) (fun h => ?_) <;> simp only [h])
      | (refine execC_split (fun h => ?_) (fun h => ?_) <;> (try simp only [h]))
      | (refine onPick_split (fun h => ?_) (fun h => ?_) <;> (try simp only [h])))
  refine callM_rel (appealId_fn code k1 s1 xs 1 hc (by omega) hxl) rfl rfl rfl ?_
  rintro _ _ ⟨d, k2, s2, rfl, rfl, hk2, hk2', hd1⟩
  repeat' (first
      | (simp only [onC_true, ↓wA, ↓wC, wB, frzBE, frzBS, Nat.reduceEqDiff, Nat.reduceAdd, Nat.reduceSub, reduceIte, reduceCtorEq, Nat.reduceBEq, Nat.reduceLT, decide_true, sz66])
      | (refine execG_split (fun h => ?_) (fun h => ?_) <;> simp only [h])
      | (refine execC_split (fun h => ?_) (fun h => ?_) <;> (try simp only [h]))
      | (refine onPick_split (fun h => ?_) (fun h => ?_) <;> (try simp only [h])))
  refine callM_rel (one_fn code k2 s2 2 hc (by omega)) rfl rfl rfl ?_
  rintro _ _ ⟨b, k3, s3, rfl, rfl, hk3, hk3'⟩
  repeat' (first
      | (simp only [onC_true, ↓wA, ↓wC, wB, frzBE, frzBS, Nat.reduceEqDiff, Nat.reduceAdd, Nat.reduceSub, reduceIte, reduceCtorEq, Nat.reduceBEq, Nat.reduceLT, decide_true, sz66])
      | (refine execG_split (fun h => ?_) (fun h => ?_) <;> simp only [h])
      | (refine execC_split (fun h => ?_) (fun h => ?_) <;> (try simp only [h]))
      | (refine onPick_split (fun h => ?_) (fun h => ?_) <;> (try simp only [h])))
  exact ⟨xs, d, b, rfl, ⟨hxl, hxf⟩⟩
theorem drawDays_fn (code : List UInt8) (hc : code.length ≤ 1048576) : Fn prog 39 [.sl false 1 (bytesD code)] (fun rs => ∃ (xs : List App) (id on : Int), rs = [.sl false 6 (appsD xs), .int .i64 id, .int .i64 on] ∧ drawnL xs ∧ -1 ≤ on ∧ on ≤ 20001) := by
  refine Fn_of' (fn := f39) (by exact func39) c39 r39 (n := 18) (by rfl) (rv := [.tmp 2, .tmp 3, .tmp 4]) (by rfl) (by simp) ?_
  unfold m39
  repeat' (first
      | (simp only [onC_true, bytes_noOwn, ↓wA, ↓wC, wB, frzBE, frzBS, Nat.reduceEqDiff, Nat.reduceAdd, Nat.reduceSub, reduceIte, reduceCtorEq, Nat.reduceBEq, Nat.reduceLT, decide_true, sz66])
      | (refine execG_split (fun h => ?_) (fun h => ?_) <;> simp only [h])
      | (refine execC_split (fun h => ?_) (fun h => ?_) <;> (try simp only [h]))
      | (refine onPick_split (fun h => ?_) (fun h => ?_) <;> (try simp only [h])))
  refine callM_rel (appeals_fn code 0 0 hc (by omega)) rfl rfl rfl ?_
  rintro _ _ ⟨xs, k1, s1, rfl, rfl, hk1, hk1', hxl, hxf⟩
  have hno := apps_noOwn xs
  simp only [hno, ↓wA, ↓wC, wB, frzBE, frzBS, Nat.reduceEqDiff, Nat.reduceAdd, Nat.reduceSub, reduceIte, reduceCtorEq, Nat.reduceBEq, Nat.reduceLT, decide_true, sz66]
  repeat' (first
      | (simp only [onC_true, hno, ↓wA, ↓wC, wB, frzBE, frzBS, Nat.reduceEqDiff, Nat.reduceAdd, Nat.reduceSub, reduceIte, reduceCtorEq, Nat.reduceBEq, Nat.reduceLT, decide_true, sz66])
      | (refine execG_split (fun h => ?_) (fun h => ?_) <;> simp only [h])
      | (refine execC_split (fun h => ?_) (fun h => ?_) <;> (try simp only [h]))
      | (refine onPick_split (fun h => ?_) (fun h => ?_) <;> (try simp only [h])))
  refine callM_rel (appealId_fn code k1 s1 xs 0 hc (by omega) hxl) rfl rfl rfl ?_
  rintro _ _ ⟨d, k2, s2, rfl, rfl, hk2, hk2', hd1⟩
  repeat' (first
      | (simp only [onC_true, ↓wA, ↓wC, wB, frzBE, frzBS, Nat.reduceEqDiff, Nat.reduceAdd, Nat.reduceSub, reduceIte, reduceCtorEq, Nat.reduceBEq, Nat.reduceLT, decide_true, sz66])
      | (refine execG_split (fun h => ?_) (fun h => ?_) <;> simp only [h])
      | (refine execC_split (fun h => ?_) (fun h => ?_) <;> (try simp only [h]))
      | (refine onPick_split (fun h => ?_) (fun h => ?_) <;> (try simp only [h])))
  refine callM_rel (day24_fn code k2 s2 hc (by omega)) rfl rfl rfl ?_
  rintro _ _ ⟨e, k3, s3, rfl, rfl, hk3, hk3', he1, he2⟩
  repeat' (first
      | (simp only [onC_true, ↓wA, ↓wC, wB, frzBE, frzBS, Nat.reduceEqDiff, Nat.reduceAdd, Nat.reduceSub, reduceIte, reduceCtorEq, Nat.reduceBEq, Nat.reduceLT, decide_true, sz66])
      | (refine execG_split (fun h => ?_) (fun h => ?_) <;> simp only [h])
      | (refine execC_split (fun h => ?_) (fun h => ?_) <;> (try simp only [h]))
      | (refine onPick_split (fun h => ?_) (fun h => ?_) <;> (try simp only [h])))
  exact ⟨xs, d, e, rfl, ⟨hxl, hxf⟩, he1, he2⟩
theorem drawWait_fn (code : List UInt8) (hc : code.length ≤ 1048576) : Fn prog 32 [.sl false 1 (bytesD code)] (fun rs => ∃ (xs : List App) (p : Int), rs = [.sl false 6 (appsD xs), .int .i64 p] ∧ drawnL xs) := by
  refine Fn_of' (fn := f32) (by exact func32) c32 r32 (n := 20) (by rfl) (rv := [.tmp 2, .tmp 3]) (by rfl) (by simp) ?_
  unfold m32
  repeat' (first
      | (simp only [onC_true, bytes_noOwn, ↓wA, ↓wC, wB, frzBE, frzBS, Nat.reduceEqDiff, Nat.reduceAdd, Nat.reduceSub, reduceIte, reduceCtorEq, Nat.reduceBEq, Nat.reduceLT, decide_true, sz66])
      | (refine execG_split (fun h => ?_) (fun h => ?_) <;> simp only [h])
      | (refine execC_split (fun h => ?_) (fun h => ?_) <;> (try simp only [h]))
      | (refine onPick_split (fun h => ?_) (fun h => ?_) <;> (try simp only [h])))
  refine callM_rel (appeals_fn code 0 0 hc (by omega)) rfl rfl rfl ?_
  rintro _ _ ⟨xs, k1, s1, rfl, rfl, hk1, hk1', hxl, hxf⟩
  have hno := apps_noOwn xs
  simp only [hno, ↓wA, ↓wC, wB, frzBE, frzBS, Nat.reduceEqDiff, Nat.reduceAdd, Nat.reduceSub, reduceIte, reduceCtorEq, Nat.reduceBEq, Nat.reduceLT, decide_true, sz66]
  repeat' (first
      | (simp only [onC_true, hno, ↓wA, ↓wC, wB, frzBE, frzBS, Nat.reduceEqDiff, Nat.reduceAdd, Nat.reduceSub, reduceIte, reduceCtorEq, Nat.reduceBEq, Nat.reduceLT, decide_true, sz66])
      | (refine execG_split (fun h => ?_) (fun h => ?_) <;> simp only [h])
      | (refine execC_split (fun h => ?_) (fun h => ?_) <;> (try simp only [h]))
      | (refine onPick_split (fun h => ?_) (fun h => ?_) <;> (try simp only [h])))
  refine callM_rel (pick_fn code k1 s1 24 hc (by omega)) rfl rfl rfl ?_
  rintro _ _ ⟨n, k2, s2, rfl, rfl, hk2, hk2', hn, hn'⟩
  have hq0 : 0 ≤ n.tdiv 11 := Int.tdiv_nonneg hn (by decide)
  have hq1 : n.tdiv 11 ≤ 2 := by
    have : n ≤ 23 := by omega
    have h2 : n.tdiv 11 = n / 11 := Int.tdiv_eq_ediv_of_nonneg hn
    omega
  have htk : (5 + n.tdiv 11).toNat ≤ 5 + 2 ∧ 5 ≤ (5 + n.tdiv 11).toNat := by omega
  have hT : ∀ b, (dl iD [1, 2, 3, 4, 50, 0, 51]).takeD b = dl iD (([1, 2, 3, 4, 50, 0, 51] : List Int).take b) := fun b => by
    unfold dl
    rw [takeD_ofL, List.map_take]
  simp only [dl, ofL, List.map, iD] at hT
  generalize hB : 5 + n.tdiv 11 = B at htk
  repeat' (first
      | (simp only [onC_true, hT, hB, ↓wA, ↓wC, wB, frzBE, frzBS, Nat.reduceEqDiff, Nat.reduceAdd, Nat.reduceSub, reduceIte, reduceCtorEq, Nat.reduceBEq, Nat.reduceLT, decide_true, sz66])
      | (with_reducible refine onC_i (by decide) ?_)
      | (with_reducible refine onC_i ?_ ?_; focus omega)
      | (with_reducible refine onI_bare ?_ ?_; focus (simp only [InR]; omega))
      | (refine onV_i fun u => ?_)
      | (refine execG_split (fun h => ?_) (fun h => ?_) <;> simp only [h])
      | (refine execC_split (fun h => ?_) (fun h => ?_) <;> (try simp only [h]))
      | (refine onPick_split (fun h => ?_) (fun h => ?_) <;> (try simp only [h])))
  refine call_frz 2 ?_
  have hU : ∀ v : List Int, (ofL (List.map iD v)).unown = ofL (List.map iD v) := ints_unown
  simp only [frz1, frzE, frzS, D.unown, hU, ↓wA, ↓wC, wB, frzBE, frzBS, Nat.reduceEqDiff, Nat.reduceAdd, Nat.reduceSub, reduceIte, reduceCtorEq, Nat.reduceBEq, Nat.reduceLT, decide_true, sz66]
  have hl : (([1, 2, 3, 4, 50, 0, 51] : List Int).take B.toNat).length = B.toNat := by simp; omega
  refine callM_rel (among_fn code k2 s2 (([1, 2, 3, 4, 50, 0, 51] : List Int).take B.toNat) hc (by omega) (by omega) (by omega)) rfl rfl rfl ?_
  rintro _ _ ⟨z, k3, s3, rfl, rfl, hk3, hk3', hz⟩
  repeat' (first
      | (simp only [onC_true, ↓wA, ↓wC, wB, frzBE, frzBS, Nat.reduceEqDiff, Nat.reduceAdd, Nat.reduceSub, reduceIte, reduceCtorEq, Nat.reduceBEq, Nat.reduceLT, decide_true, sz66])
      | (refine execG_split (fun h => ?_) (fun h => ?_) <;> simp only [h])
      | (refine execC_split (fun h => ?_) (fun h => ?_) <;> (try simp only [h]))
      | (refine onPick_split (fun h => ?_) (fun h => ?_) <;> (try simp only [h])))
  exact ⟨xs, z, rfl, ⟨hxl, hxf⟩⟩
theorem drawNew_fn (code : List UInt8) (hc : code.length ≤ 1048576) : Fn prog 52 [.sl false 1 (bytesD code)] (fun rs => ∃ (xs : List App) (r d : Int) (v : List Int), rs = [.sl false 6 (appsD xs), .int .i64 r, .int .i64 d, .sl true 1 (dl iD v)] ∧ drawnL xs ∧ v.length ≤ 12) := by
  refine Fn_of' (fn := f52) (by exact func52) c52 r52 (n := 26) (by rfl) (rv := [.tmp 2, .tmp 3, .tmp 4, .tmp 5]) (by rfl) (by simp) ?_
  unfold m52
  repeat' (first
      | (simp only [onC_true, bytes_noOwn, ↓wA, ↓wC, wB, frzBE, frzBS, Nat.reduceEqDiff, Nat.reduceAdd, Nat.reduceSub, reduceIte, reduceCtorEq, Nat.reduceBEq, Nat.reduceLT, decide_true, sz66])
      | (refine execG_split (fun h => ?_) (fun h => ?_) <;> simp only [h])
      | (refine execC_split (fun h => ?_) (fun h => ?_) <;> (try simp only [h]))
      | (refine onPick_split (fun h => ?_) (fun h => ?_) <;> (try simp only [h])))
  refine callM_rel (appeals_fn code 0 0 hc (by omega)) rfl rfl rfl ?_
  rintro _ _ ⟨xs, k1, s1, rfl, rfl, hk1, hk1', hxl, hxf⟩
  have hno := apps_noOwn xs
  simp only [hno, ↓wA, ↓wC, wB, frzBE, frzBS, Nat.reduceEqDiff, Nat.reduceAdd, Nat.reduceSub, reduceIte, reduceCtorEq, Nat.reduceBEq, Nat.reduceLT, decide_true, sz66]
  repeat' (first
      | (simp only [onC_true, hno, ↓wA, ↓wC, wB, frzBE, frzBS, Nat.reduceEqDiff, Nat.reduceAdd, Nat.reduceSub, reduceIte, reduceCtorEq, Nat.reduceBEq, Nat.reduceLT, decide_true, sz66])
      | (refine execG_split (fun h => ?_) (fun h => ?_) <;> simp only [h])
      | (refine execC_split (fun h => ?_) (fun h => ?_) <;> (try simp only [h]))
      | (refine onPick_split (fun h => ?_) (fun h => ?_) <;> (try simp only [h])))
  refine callM_rel (pick_fn code k1 s1 24 hc (by omega)) rfl rfl rfl ?_
  rintro _ _ ⟨n, k2, s2, rfl, rfl, hk2, hk2', hn, hn'⟩
  have hq0 : 0 ≤ n.tdiv 11 := Int.tdiv_nonneg hn (by decide)
  have hq1 : n.tdiv 11 ≤ 2 := by
    have : n ≤ 23 := by omega
    have h2 : n.tdiv 11 = n / 11 := Int.tdiv_eq_ediv_of_nonneg hn
    omega
  have htk : (4 + n.tdiv 11).toNat ≤ 4 + 2 ∧ 4 ≤ (4 + n.tdiv 11).toNat := by omega
  have hT : ∀ b, (dl iD [1, 2, 5, 999, 0, 1000]).takeD b = dl iD (([1, 2, 5, 999, 0, 1000] : List Int).take b) := fun b => by
    unfold dl
    rw [takeD_ofL, List.map_take]
  simp only [dl, ofL, List.map, iD] at hT
  generalize hB : 4 + n.tdiv 11 = B at htk
  repeat' (first
      | (simp only [onC_true, hT, hB, ↓wA, ↓wC, wB, frzBE, frzBS, Nat.reduceEqDiff, Nat.reduceAdd, Nat.reduceSub, reduceIte, reduceCtorEq, Nat.reduceBEq, Nat.reduceLT, decide_true, sz66])
      | (with_reducible refine onC_i (by decide) ?_)
      | (with_reducible refine onC_i ?_ ?_; focus omega)
      | (with_reducible refine onI_bare ?_ ?_; focus (simp only [InR]; omega))
      | (refine onV_i fun u => ?_)
      | (refine execG_split (fun h => ?_) (fun h => ?_) <;> simp only [h])
      | (refine execC_split (fun h => ?_) (fun h => ?_) <;> (try simp only [h]))
      | (refine onPick_split (fun h => ?_) (fun h => ?_) <;> (try simp only [h])))
  refine call_frz 2 ?_
  have hU : ∀ v : List Int, (ofL (List.map iD v)).unown = ofL (List.map iD v) := ints_unown
  simp only [frz1, frzE, frzS, D.unown, hU, ↓wA, ↓wC, wB, frzBE, frzBS, Nat.reduceEqDiff, Nat.reduceAdd, Nat.reduceSub, reduceIte, reduceCtorEq, Nat.reduceBEq, Nat.reduceLT, decide_true, sz66]
  have hl : (([1, 2, 5, 999, 0, 1000] : List Int).take B.toNat).length = B.toNat := by simp; omega
  refine callM_rel (among_fn code k2 s2 (([1, 2, 5, 999, 0, 1000] : List Int).take B.toNat) hc (by omega) (by omega) (by omega)) rfl rfl rfl ?_
  rintro _ _ ⟨z, k3, s3, rfl, rfl, hk3, hk3', hz⟩
  repeat' (first
      | (simp only [onC_true, ↓wA, ↓wC, wB, frzBE, frzBS, Nat.reduceEqDiff, Nat.reduceAdd, Nat.reduceSub, reduceIte, reduceCtorEq, Nat.reduceBEq, Nat.reduceLT, decide_true, sz66])
      | (refine execG_split (fun h => ?_) (fun h => ?_) <;> simp only [h])
      | (refine execC_split (fun h => ?_) (fun h => ?_) <;> (try simp only [h]))
      | (refine onPick_split (fun h => ?_) (fun h => ?_) <;> (try simp only [h])))
  refine callM_rel (day24_fn code k3 s3 hc (by omega)) rfl rfl rfl ?_
  rintro _ _ ⟨e, k4, s4, rfl, rfl, hk4, hk4', he1, he2⟩
  repeat' (first
      | (simp only [onC_true, ↓wA, ↓wC, wB, frzBE, frzBS, Nat.reduceEqDiff, Nat.reduceAdd, Nat.reduceSub, reduceIte, reduceCtorEq, Nat.reduceBEq, Nat.reduceLT, decide_true, sz66])
      | (refine execG_split (fun h => ?_) (fun h => ?_) <;> simp only [h])
      | (refine execC_split (fun h => ?_) (fun h => ?_) <;> (try simp only [h]))
      | (refine onPick_split (fun h => ?_) (fun h => ?_) <;> (try simp only [h])))
  refine callM_rel (parties_fn code k4 s4 hc (by omega)) rfl rfl rfl ?_
  rintro _ _ ⟨v, k5, s5, rfl, rfl, hk5, hk5', hv⟩
  repeat' (first
      | (simp only [onC_true, ↓wA, ↓wC, wB, frzBE, frzBS, Nat.reduceEqDiff, Nat.reduceAdd, Nat.reduceSub, reduceIte, reduceCtorEq, Nat.reduceBEq, Nat.reduceLT, decide_true, sz66])
      | (refine execG_split (fun h => ?_) (fun h => ?_) <;> simp only [h])
      | (refine execC_split (fun h => ?_) (fun h => ?_) <;> (try simp only [h]))
      | (refine onPick_split (fun h => ?_) (fun h => ?_) <;> (try simp only [h])))
  exact ⟨xs, z, e, v, rfl, ⟨hxl, hxf⟩, hv⟩
theorem drawHear_fn (code : List UInt8) (hc : code.length ≤ 1048576) : Fn prog 47 [.sl false 1 (bytesD code)] (fun rs => ∃ (xs : List App) (id p : Int), rs = [.sl false 6 (appsD xs), .int .i64 id, .int .i64 p] ∧ drawnL xs) := by
  refine Fn_of' (fn := f47) (by exact func47) c47 r47 (n := 58) (by rfl) (rv := [.tmp 2, .tmp 3, .tmp 4]) (by rfl) (by simp) ?_
  unfold m47
  repeat' (first
      | (simp only [onC_true, bytes_noOwn, ↓wA, ↓wC, wB, frzBE, frzBS, Nat.reduceEqDiff, Nat.reduceAdd, Nat.reduceSub, reduceIte, reduceCtorEq, Nat.reduceBEq, Nat.reduceLT, decide_true, sz66])
      | (refine execG_split (fun h => ?_) (fun h => ?_) <;> simp only [h])
      | (refine execC_split (fun h => ?_) (fun h => ?_) <;> (try simp only [h]))
      | (refine onPick_split (fun h => ?_) (fun h => ?_) <;> (try simp only [h])))
  refine callM_rel (appeals_fn code 0 0 hc (by omega)) rfl rfl rfl ?_
  rintro _ _ ⟨xs, k1, s1, rfl, rfl, hk1, hk1', hxl, hxf⟩
  have hno := apps_noOwn xs
  simp only [hno, ↓wA, ↓wC, wB, frzBE, frzBS, Nat.reduceEqDiff, Nat.reduceAdd, Nat.reduceSub, reduceIte, reduceCtorEq, Nat.reduceBEq, Nat.reduceLT, decide_true, sz66]
  repeat' (first
      | (simp only [onC_true, hno, ↓wA, ↓wC, wB, frzBE, frzBS, Nat.reduceEqDiff, Nat.reduceAdd, Nat.reduceSub, reduceIte, reduceCtorEq, Nat.reduceBEq, Nat.reduceLT, decide_true, sz66])
      | (refine execG_split (fun h => ?_) (fun h => ?_) <;> simp only [h])
      | (refine execC_split (fun h => ?_) (fun h => ?_) <;> (try simp only [h]))
      | (refine onPick_split (fun h => ?_) (fun h => ?_) <;> (try simp only [h])))
  refine callM_rel (appealId_fn code k1 s1 xs 0 hc (by omega) hxl) rfl rfl rfl ?_
  rintro _ _ ⟨id, k2, s2, rfl, rfl, hk2, hk2', _⟩
  have hF := l24Find_fn xs id (by omega)
  rcases find_cases xs id with ⟨hn, hn'⟩ | ⟨i, x, hi, hr, _⟩
  · repeat' (first
     | (simp only [onC_true, hn', ↓wA, ↓wC, wB, frzBE, frzBS, Nat.reduceEqDiff, Nat.reduceAdd, Nat.reduceSub, reduceIte, reduceCtorEq, Nat.reduceBEq, Nat.reduceLT, decide_true, sz66])
     | (refine call_det (hF) rfl rfl ?_)
     | (refine callP_det (hF) rfl rfl ?_)
     | (refine execG_split (fun h => ?_) (fun h => ?_) <;> simp only [h])
     | (refine execC_split (fun h => ?_) (fun h => ?_) <;> (try simp only [h]))
     | (refine onPick_split (fun h => ?_) (fun h => ?_) <;> (try simp only [h])))
    refine call_frz 1 ?_
    simp only [frz1, frzE, frzS, D.unown, ↓wA, ↓wC, wB, frzBE, frzBS, Nat.reduceEqDiff, Nat.reduceAdd, Nat.reduceSub, reduceIte, reduceCtorEq, Nat.reduceBEq, Nat.reduceLT, decide_true, sz66]
    refine callM_rel (among_fn code k2 s2 [1, 2, 50, 0] hc (by omega) (by decide) (by decide)) rfl rfl rfl ?_
    rintro _ _ ⟨z, k3, s3, rfl, rfl, hk3, hk3', hmz⟩
    repeat' (first
        | (simp only [onC_true, ↓wA, ↓wC, wB, frzBE, frzBS, Nat.reduceEqDiff, Nat.reduceAdd, Nat.reduceSub, reduceIte, reduceCtorEq, Nat.reduceBEq, Nat.reduceLT, decide_true, sz66])
        | (refine execG_split (fun h => ?_) (fun h => ?_) <;> simp only [h])
        | (refine execC_split (fun h => ?_) (fun h => ?_) <;> (try simp only [h]))
        | (refine onPick_split (fun h => ?_) (fun h => ?_) <;> (try simp only [h])))
    exact ⟨xs, id, z, rfl, hxl, hxf⟩
  · rw [hi] at hF
    have h0 : (0 : Int) ≤ (i : Int) := by omega
    have h0' : decide ((0 : Int) ≤ (i : Int)) = true := decide_eq_true h0
    have hx := hxf x (List.mem_of_getElem? hr)
    repeat' (first
        | (simp only [onC_true, h0, h0', dl_len, dl_nth, Int.toNat_natCast, hr, Option.map_some, ↓fa_app3, ints_noOwn, ↓wA, ↓wC, wB, frzBE, frzBS, Nat.reduceEqDiff, Nat.reduceAdd, Nat.reduceSub, reduceIte, reduceCtorEq, Nat.reduceBEq, Nat.reduceLT, decide_true, sz66])
        | (refine call_det (hF) rfl rfl ?_)
        | (refine callP_det (hF) rfl rfl ?_)
        | (refine execG_split (fun h => ?_) (fun h => ?_) <;> simp only [h])
        | (refine execC_split (fun h => ?_) (fun h => ?_) <;> (try simp only [h]))
        | (refine onPick_split (fun h => ?_) (fun h => ?_) <;> (try simp only [h])))
    · have hpos := of_decide_eq_true (show decide ((0 : Int) < (x.a.length : Int)) = true by assumption)
      refine callM_rel (one_fn code k2 s2 6 hc (by omega)) rfl rfl rfl ?_
      rintro _ _ ⟨b, k3, s3, rfl, rfl, hk3, hk3'⟩
      cases b with
      | false =>
        repeat' (first
            | (simp only [onC_true, h0, h0', dl_len, dl_nth, Int.toNat_natCast, hr, Option.map_some, ↓fa_app3, ints_noOwn, ↓wA, ↓wC, wB, frzBE, frzBS, Nat.reduceEqDiff, Nat.reduceAdd, Nat.reduceSub, reduceIte, reduceCtorEq, Nat.reduceBEq, Nat.reduceLT, decide_true, sz66])
            | (refine onJ_q ?_)
            | (refine execG_split (fun h => ?_) (fun h => ?_) <;> simp only [h])
            | (refine execC_split (fun h => ?_) (fun h => ?_) <;> (try simp only [h]))
            | (refine onPick_split (fun h => ?_) (fun h => ?_) <;> (try simp only [h])))
        refine callM_rel (pick_fn code k3 s3 x.a.length hc (by omega)) rfl rfl rfl ?_
        rintro _ _ ⟨y, k4, s4, rfl, rfl, hk4, hk4', hy, hy'⟩
        obtain ⟨z, hz⟩ := get_lt (show y.toNat < x.a.length by omega)
        repeat' (first
            | (simp only [onC_true, dl_len, dl_nth, hy, hz, Int.toNat_natCast, Option.map_some, ↓rd_iD, ints_noOwn, ↓wA, ↓wC, wB, frzBE, frzBS, Nat.reduceEqDiff, Nat.reduceAdd, Nat.reduceSub, reduceIte, reduceCtorEq, Nat.reduceBEq, Nat.reduceLT, decide_true, sz66])
            | (refine execG_split (fun h => ?_) (fun h => ?_) <;> simp only [h])
            | (refine execC_split (fun h => ?_) (fun h => ?_) <;> (try simp only [h]))
            | (refine onPick_split (fun h => ?_) (fun h => ?_) <;> (try simp only [h])))
        all_goals exact ⟨xs, id, z, rfl, hxl, hxf⟩
      | true =>
        repeat' (first
            | (simp only [onC_true, ↓wA, ↓wC, wB, frzBE, frzBS, Nat.reduceEqDiff, Nat.reduceAdd, Nat.reduceSub, reduceIte, reduceCtorEq, Nat.reduceBEq, Nat.reduceLT, decide_true, sz66])
            | (refine execG_split (fun h => ?_) (fun h => ?_) <;> simp only [h])
            | (refine execC_split (fun h => ?_) (fun h => ?_) <;> (try simp only [h]))
            | (refine onPick_split (fun h => ?_) (fun h => ?_) <;> (try simp only [h])))
        refine call_frz 1 ?_
        simp only [frz1, frzE, frzS, D.unown, ↓wA, ↓wC, wB, frzBE, frzBS, Nat.reduceEqDiff, Nat.reduceAdd, Nat.reduceSub, reduceIte, reduceCtorEq, Nat.reduceBEq, Nat.reduceLT, decide_true, sz66]
        refine callM_rel (among_fn code k3 s3 [1, 2, 50, 0] hc (by omega) (by decide) (by decide)) rfl rfl rfl ?_
        rintro _ _ ⟨z, k4, s4, rfl, rfl, hk4, hk4', hmz⟩
        repeat' (first
            | (simp only [onC_true, ↓wA, ↓wC, wB, frzBE, frzBS, Nat.reduceEqDiff, Nat.reduceAdd, Nat.reduceSub, reduceIte, reduceCtorEq, Nat.reduceBEq, Nat.reduceLT, decide_true, sz66])
            | (refine execG_split (fun h => ?_) (fun h => ?_) <;> simp only [h])
            | (refine execC_split (fun h => ?_) (fun h => ?_) <;> (try simp only [h]))
            | (refine onPick_split (fun h => ?_) (fun h => ?_) <;> (try simp only [h])))
        exact ⟨xs, id, z, rfl, hxl, hxf⟩
    · skip
      refine call_frz 1 ?_
      simp only [frz1, frzE, frzS, D.unown, ↓wA, ↓wC, wB, frzBE, frzBS, Nat.reduceEqDiff, Nat.reduceAdd, Nat.reduceSub, reduceIte, reduceCtorEq, Nat.reduceBEq, Nat.reduceLT, decide_true, sz66]
      refine callM_rel (among_fn code k2 s2 [1, 2, 50, 0] hc (by omega) (by decide) (by decide)) rfl rfl rfl ?_
      rintro _ _ ⟨z, k3, s3, rfl, rfl, hk3, hk3', hmz⟩
      repeat' (first
          | (simp only [onC_true, ↓wA, ↓wC, wB, frzBE, frzBS, Nat.reduceEqDiff, Nat.reduceAdd, Nat.reduceSub, reduceIte, reduceCtorEq, Nat.reduceBEq, Nat.reduceLT, decide_true, sz66])
          | (refine execG_split (fun h => ?_) (fun h => ?_) <;> simp only [h])
          | (refine execC_split (fun h => ?_) (fun h => ?_) <;> (try simp only [h]))
          | (refine onPick_split (fun h => ?_) (fun h => ?_) <;> (try simp only [h])))
      exact ⟨xs, id, z, rfl, hxl, hxf⟩
end Go.Pe.Try

set_option maxRecDepth 100000
set_option maxHeartbeats 4000000
set_option linter.all false
namespace Go.Pe.Try
open Go.Proofs.Try
theorem rBig_fn (code : List UInt8) : Fn prog 16 [.sl false 1 (bytesD code)] (fun rs => rs = [.bool (decide ((65536 : Int) < (code.length : Int)))]) := by
  refine Fn_of' (fn := f16) (by exact func16) c16 r16 (n := 6) (by rfl) (rv := [.tmp 2]) (by rfl) (by simp) ?_
  unfold m16
  repeat' (first
      | (simp only [bytesD_len, ↓wA, ↓wC, wB, frzBE, frzBS, Nat.reduceEqDiff, Nat.reduceAdd, Nat.reduceSub, reduceIte, reduceCtorEq, Nat.reduceBEq, Nat.reduceLT, decide_true])
      | (refine execG_split (fun h => ?_) (fun h => ?_) <;> simp only [h])
      | (refine execC_split (fun h => ?_) (fun h => ?_) <;> (try simp only [h]))
      | (refine onPick_split (fun h => ?_) (fun h => ?_) <;> (try simp only [h])))
theorem rInts_refl (v : List Int) (hlen : v.length ≤ 1048576) : Fn prog 27 [.sl false 1 (dl iD v), .sl false 1 (dl iD v)] (fun rs => rs = [.bool true]) := by
  refine Fn_of' (fn := f27) (by exact func27) c27 r27 (n := 26) (by rfl) (rv := [.tmp 4]) (by rfl) (by simp) ?_
  unfold m27
  repeat' (first
      | (simp only [dl_len, ↓wA, ↓wC, wB, frzBE, frzBS, Nat.reduceEqDiff, Nat.reduceAdd, Nat.reduceSub, reduceIte, reduceCtorEq, Nat.reduceBEq, Nat.reduceLT, decide_true])
      | (refine execG_split (fun h => ?_) (fun h => ?_) <;> simp only [h])
      | (refine execC_split (fun h => ?_) (fun h => ?_) <;> (try simp only [h]))
      | (refine onPick_split (fun h => ?_) (fun h => ?_) <;> (try simp only [h])))
  refine exec_range v.length (fun i : Nat => ⟨[(0, .d (.sl false 1 (dl iD v))), (1, .d (.sl false 1 (dl iD v))), (5, .d (.int .i64 i))], []⟩) (fun _ => True) (weak_of _ rfl ⟨⟨rfl, rfl⟩, ⟨rfl, rfl⟩, ⟨rfl, rfl⟩, trivial⟩) trivial ?_ ?_
  · intro i hlt _ hd h0
    obtain ⟨r, hr⟩ := get_lt hlt
    repeat' (first
        | (simp only [dl_len, dl_nth, hd, Int.toNat_natCast, hr, Option.map_some, h0, onC_true, ↓rd_iD, ↓wA, ↓wC, wB, frzBE, frzBS, Nat.reduceEqDiff, Nat.reduceAdd, Nat.reduceSub, reduceIte, reduceCtorEq, Nat.reduceBEq, Nat.reduceLT, decide_true])
        | (with_reducible refine onI_bare ?_ ?_; focus (simp only [InR]; omega))
        | (refine execG_split (fun h => ?_) (fun h => ?_) <;> simp only [h])
        | (refine execC_split (fun h => ?_) (fun h => ?_) <;> (try simp only [h]))
        | (refine onPick_split (fun h => ?_) (fun h => ?_) <;> (try simp only [h])))
    exact ⟨i + 1, (weak_of _ rfl ⟨⟨rfl, rfl⟩, ⟨rfl, rfl⟩, ⟨rfl, rfl⟩, trivial⟩), by omega, by omega⟩
  · intro _ hd
    repeat' (first
        | (simp only [dl_len, hd, ↓wA, ↓wC, wB, frzBE, frzBS, Nat.reduceEqDiff, Nat.reduceAdd, Nat.reduceSub, reduceIte, reduceCtorEq, Nat.reduceBEq, Nat.reduceLT, decide_true])
        | (refine execG_split (fun h => ?_) (fun h => ?_) <;> simp only [h])
        | (refine execC_split (fun h => ?_) (fun h => ?_) <;> (try simp only [h]))
        | (refine onPick_split (fun h => ?_) (fun h => ?_) <;> (try simp only [h])))
theorem rHas_fn (v : List Int) (n : Int) (hlen : v.length ≤ 1048576) : Fn prog 28 [.sl false 1 (dl iD v), .int .i64 n] (fun rs => rs = [.bool (v.contains n)]) := by
  rw [← any_eq_contains]
  refine Fn_of' (fn := f28) (by exact func28) c28 r28 (n := 18) (by rfl) (rv := [.tmp 4]) (by rfl) (by simp) ?_
  unfold m28
  repeat' (first
      | (simp only [dl_len, ↓wA, ↓wC, wB, frzBE, frzBS, Nat.reduceEqDiff, Nat.reduceAdd, Nat.reduceSub, reduceIte, reduceCtorEq, Nat.reduceBEq, Nat.reduceLT, decide_true])
      | (refine execG_split (fun h => ?_) (fun h => ?_) <;> simp only [h])
      | (refine execC_split (fun h => ?_) (fun h => ?_) <;> (try simp only [h]))
      | (refine onPick_split (fun h => ?_) (fun h => ?_) <;> (try simp only [h])))
  refine exec_range v.length (fun i : Nat => ⟨[(0, .d (.sl false 1 (dl iD v))), (1, .d (.int .i64 n)), (5, .d (.int .i64 i))], []⟩) (fun i => ∀ j r, j < i → v[j]? = some r → decide (n = r) = false) (weak_of _ rfl ⟨⟨rfl, rfl⟩, ⟨rfl, rfl⟩, ⟨rfl, rfl⟩, trivial⟩) (fun j r hj => by omega) ?_ ?_
  · intro i hlt hinv hd h0
    obtain ⟨r, hr⟩ := get_lt hlt
    have hsym : decide (r = n) = decide (n = r) := decide_eq_decide.2 eq_comm
    repeat' (first
        | (simp only [dl_len, dl_nth, hd, Int.toNat_natCast, hr, Option.map_some, h0, onC_true, ↓rd_iD, hsym, ↓wA, ↓wC, wB, frzBE, frzBS, Nat.reduceEqDiff, Nat.reduceAdd, Nat.reduceSub, reduceIte, reduceCtorEq, Nat.reduceBEq, Nat.reduceLT, decide_true])
        | (with_reducible refine onI_bare ?_ ?_; focus (simp only [InR]; omega))
        | (refine execG_split (fun h => ?_) (fun h => ?_) <;> simp only [h])
        | (refine execC_split (fun h => ?_) (fun h => ?_) <;> (try simp only [h]))
        | (refine onPick_split (fun h => ?_) (fun h => ?_) <;> (try simp only [h])))
    · have : v.any (fun x => decide (n = x)) = true := List.any_eq_true.2 ⟨r, List.mem_of_getElem? hr, h⟩
      rw [this]
    · refine next_range (weak_of _ rfl ⟨⟨rfl, rfl⟩, ⟨rfl, rfl⟩, ⟨rfl, rfl⟩, trivial⟩) hlt fun j s hj hs => ?_
      by_cases e : j = i
      · subst e; rw [hr] at hs; injection hs with hs; rw [← hs]; exact h
      · exact hinv j s (by omega) hs
  · intro hinv hd
    have : v.any (fun x => decide (n = x)) = false := by
      rw [List.any_eq_false]
      intro x hx
      obtain ⟨j, hj⟩ := List.getElem?_of_mem hx
      simp [hinv j x (lt_of_get hj) hj]
    rw [this]
    repeat' (first
        | (simp only [dl_len, hd, ↓wA, ↓wC, wB, frzBE, frzBS, Nat.reduceEqDiff, Nat.reduceAdd, Nat.reduceSub, reduceIte, reduceCtorEq, Nat.reduceBEq, Nat.reduceLT, decide_true])
        | (refine execG_split (fun h => ?_) (fun h => ?_) <;> simp only [h])
        | (refine execC_split (fun h => ?_) (fun h => ?_) <;> (try simp only [h]))
        | (refine onPick_split (fun h => ?_) (fun h => ?_) <;> (try simp only [h])))
theorem rAppeals_refl (xs : List App) (hlen : xs.length ≤ 1048576) (hx : ∀ x ∈ xs, x.ok0) : Fn prog 38 [.sl false 6 (appsD xs), .sl false 6 (appsD xs)] (fun rs => rs = [.bool true]) := by
  refine Fn_of' (fn := f38) (by exact func38) c38 r38 (n := 95) (by rfl) (rv := [.tmp 4]) (by rfl) (by simp) ?_
  unfold m38
  repeat' (first
      | (simp only [dl_len, ↓wA, ↓wC, wB, frzBE, frzBS, Nat.reduceEqDiff, Nat.reduceAdd, Nat.reduceSub, reduceIte, reduceCtorEq, Nat.reduceBEq, Nat.reduceLT, decide_true])
      | (refine execG_split (fun h => ?_) (fun h => ?_) <;> simp only [h])
      | (refine execC_split (fun h => ?_) (fun h => ?_) <;> (try simp only [h]))
      | (refine onPick_split (fun h => ?_) (fun h => ?_) <;> (try simp only [h])))
  refine exec_range xs.length (fun i : Nat => ⟨[(0, .d (.sl false 6 (appsD xs))), (1, .d (.sl false 6 (appsD xs))), (5, .d (.int .i64 i))], []⟩) (fun _ => True) (weak_of _ rfl ⟨⟨rfl, rfl⟩, ⟨rfl, rfl⟩, ⟨rfl, rfl⟩, trivial⟩) trivial ?_ ?_
  · intro i hlt _ hd h0
    obtain ⟨x, hr⟩ := get_lt hlt
    have hxo := hx x (List.mem_of_getElem? hr)
    have h1 := rInts_refl x.a hxo.1
    have h2 := rInts_refl x.h hxo.2
    repeat' (first
        | (simp only [dl_len, dl_nth, hd, Int.toNat_natCast, hr, Option.map_some, h0, onC_true, ↓fa_app0, ↓fa_app1, ↓fa_app2, ↓fa_app3, ↓fa_app4, ↓fa_app5, ints_noOwn, ↓wA, ↓wC, wB, frzBE, frzBS, Nat.reduceEqDiff, Nat.reduceAdd, Nat.reduceSub, reduceIte, reduceCtorEq, Nat.reduceBEq, Nat.reduceLT, decide_true])
        | (refine call_det (h1) rfl rfl ?_)
        | (refine callP_det (h1) rfl rfl ?_)
        | (refine call_det (h2) rfl rfl ?_)
        | (refine callP_det (h2) rfl rfl ?_)
        | (with_reducible refine onI_bare ?_ ?_; focus (simp only [InR]; omega))
        | (refine execG_split (fun h => ?_) (fun h => ?_) <;> simp only [h])
        | (refine execC_split (fun h => ?_) (fun h => ?_) <;> (try simp only [h]))
        | (refine onPick_split (fun h => ?_) (fun h => ?_) <;> (try simp only [h])))
    exact ⟨i + 1, (weak_of _ rfl ⟨⟨rfl, rfl⟩, ⟨rfl, rfl⟩, ⟨rfl, rfl⟩, trivial⟩), by omega, by omega⟩
  · intro _ hd
    repeat' (first
        | (simp only [dl_len, hd, ↓wA, ↓wC, wB, frzBE, frzBS, Nat.reduceEqDiff, Nat.reduceAdd, Nat.reduceSub, reduceIte, reduceCtorEq, Nat.reduceBEq, Nat.reduceLT, decide_true])
        | (refine execG_split (fun h => ?_) (fun h => ?_) <;> simp only [h])
        | (refine execC_split (fun h => ?_) (fun h => ?_) <;> (try simp only [h]))
        | (refine onPick_split (fun h => ?_) (fun h => ?_) <;> (try simp only [h])))
end Go.Pe.Try

set_option linter.all false
namespace Go.Pe.Try
open Go.Proofs.Try
/-- what makes a list good, place by place. -/
def goodP (xs : List App) : Prop := xs.length ≤ 10 ∧ ∀ (i : Nat) (x : App), xs[i]? = some x → okA x = true ∧ (∀ j y, i = j + 1 → xs[j]? = some y → y.i < x.i) ∧ (pend x = true → ∀ j y, j < i → xs[j]? = some y → pend y = true → y.q ≠ x.q)
theorem goodP_iff (xs : List App) : goodA xs = true ↔ goodP xs := by
  unfold goodA goodP
  rw [Bool.and_eq_true, decide_eq_true_eq, List.all_eq_true]
  constructor
  · rintro ⟨h1, h2⟩
    refine ⟨by omega, fun i x hi => ?_⟩
    have h3 := h2 i (List.mem_range.2 (lt_of_get hi))
    rw [stepA_at hi, Bool.and_eq_true, Bool.and_eq_true] at h3
    obtain ⟨⟨h4, h5⟩, h6⟩ := h3
    refine ⟨h4, fun j y hj hy => ?_, fun hp j y hj hy hq he => ?_⟩
    · subst hj
      simp only [ltA, hy] at h5
      exact of_decide_eq_true h5
    · rw [hp, Bool.true_and, Bool.not_eq_true', List.any_eq_false] at h6
      refine h6 y ?_ (by simp [sameA, he, hq])
      rw [List.mem_iff_getElem?]
      exact ⟨j, by rw [List.getElem?_take, if_pos hj]; exact hy⟩
  · rintro ⟨h1, h2⟩
    refine ⟨by omega, fun i hi => ?_⟩
    obtain ⟨x, hx⟩ := get_lt (List.mem_range.1 hi)
    obtain ⟨h3, h4, h5⟩ := h2 i x hx
    rw [stepA_at hx, h3, Bool.true_and, Bool.and_eq_true]
    constructor
    · cases i with
      | zero => rfl
      | succ j =>
        simp only [ltA]
        split
        · rfl
        · rename_i y hy
          exact decide_eq_true (h4 j y rfl hy)
    · cases hp : pend x with
      | false => rfl
      | true =>
        rw [Bool.true_and, Bool.not_eq_true', List.any_eq_false]
        intro y hy hs
        obtain ⟨j, hj⟩ := List.getElem?_of_mem hy
        rw [List.getElem?_take] at hj
        split at hj
        · rename_i hji
          simp only [sameA, Bool.and_eq_true, decide_eq_true_eq] at hs
          exact h5 hp j y hji hj hs.2 hs.1
        · cases hj
/-- of like lists both are good. -/
theorem good_like {xs ys : List App} (hg : goodA xs = true) (hl : ys.length = xs.length) (h : ∀ (i : Nat) (x y : App), xs[i]? = some x → ys[i]? = some y → y.i = x.i ∧ y.q = x.q ∧ okA y = true ∧ (pend y = true → pend x = true)) : goodA ys = true := by
  rw [goodP_iff] at hg ⊢
  obtain ⟨h1, h2⟩ := hg
  have tw : ∀ {j : Nat} {y : App}, ys[j]? = some y → ∃ x, xs[j]? = some x := fun hy => get_lt (by have := lt_of_get hy; omega)
  refine ⟨by omega, fun i y hy => ?_⟩
  obtain ⟨x, hx⟩ := tw hy
  obtain ⟨a1, a2, a3, a4⟩ := h i x y hx hy
  obtain ⟨b1, b2, b3⟩ := h2 i x hx
  refine ⟨a3, fun j z hj hz => ?_, fun hp j z hj hz hq => ?_⟩
  · obtain ⟨w, hw⟩ := tw hz
    obtain ⟨c1, _⟩ := h j w z hw hz
    rw [c1, a1]
    exact b2 j w hj hw
  · obtain ⟨w, hw⟩ := tw hz
    obtain ⟨_, c2, _, c4⟩ := h j w z hw hz
    rw [c2, a2]
    exact b3 (a4 hp) j w hj hw (c4 hq)
theorem good_set {xs : List App} {i : Nat} {x y : App} (hg : goodA xs = true) (hx : xs[i]? = some x) (h1 : y.i = x.i) (h2 : y.q = x.q) (h3 : okA y = true) (h4 : pend y = true → pend x = true) : goodA (xs.set i y) = true := by
  refine good_like hg (by simp) fun j a b ha hb => ?_
  rw [List.getElem?_set] at hb
  by_cases e : i = j
  · subst e
    rw [if_pos rfl, if_pos (lt_of_get hx)] at hb
    injection hb with hb
    rw [hx] at ha
    injection ha with ha
    subst ha hb
    exact ⟨h1, h2, h3, h4⟩
  · rw [if_neg e, ha] at hb
    injection hb with hb
    subst hb
    exact ⟨rfl, rfl, ((goodP_iff xs).1 hg).2 j a ha |>.1, id⟩
theorem good_map {xs : List App} {f : App → App} (hg : goodA xs = true) (h : ∀ x ∈ xs, okA x = true → (f x).i = x.i ∧ (f x).q = x.q ∧ okA (f x) = true ∧ (pend (f x) = true → pend x = true)) : goodA (xs.map f) = true := by
  refine good_like hg (by simp) fun j a b ha hb => ?_
  rw [List.getElem?_map, ha] at hb
  injection hb with hb
  subst hb
  exact h a (List.mem_of_getElem? ha) (((goodP_iff xs).1 hg).2 j a ha).1
theorem good_inc {xs : List App} (hg : goodA xs = true) : ∀ (k m : Nat) (a b : App), m < k → xs[m]? = some a → xs[k]? = some b → a.i < b.i
  | 0, m, a, b, hm, _, _ => by omega
  | k + 1, m, a, b, hm, ha, hb => by
    have hG := ((goodP_iff xs).1 hg).2
    by_cases e : m = k
    · subst e; exact (hG (m + 1) b hb).2.1 m a rfl ha
    · obtain ⟨c, hc⟩ := get_lt (show k < xs.length by have := lt_of_get hb; omega)
      have h1 := good_inc hg k m a c (by omega) ha hc
      have h2 := (hG (k + 1) b hb).2.1 k c rfl hc
      omega
theorem find_of {xs : List App} {i : Nat} {x : App} (hg : goodA xs = true) (hx : xs[i]? = some x) : findA xs x.i = (i : Int) := by
  unfold findA
  refine idxOf_hit hx (by simp) fun j s hj hs => ?_
  have := good_inc hg i j s x hj hs hx
  exact decide_eq_false (by omega)
theorem uniq_of {xs : List App} {x y : App} (hg : goodA xs = true) (hx : x ∈ xs) (hy : y ∈ xs) (h : x.i = y.i) : x = y := by
  obtain ⟨i, hi⟩ := List.getElem?_of_mem hx
  obtain ⟨j, hj⟩ := List.getElem?_of_mem hy
  rcases Nat.lt_trichotomy i j with hlt | hlt | hlt
  · have := good_inc hg j i x y hlt hi hj; omega
  · subst hlt; rw [hi] at hj; injection hj
  · have := good_inc hg i j y x hlt hj hi; omega
theorem risen_nodup {v : List Int} (h : risen v) : v.Nodup := by
  unfold List.Nodup
  rw [List.pairwise_iff_getElem]
  intro i j hi hj hij he
  have := risen_lt h j i _ _ hij (List.getElem?_eq_getElem hi) (List.getElem?_eq_getElem hj)
  omega
/-- one more of a list without doubles. -/
theorem filter_one {q : Int → Bool} {p : Int} : ∀ {a : List Int}, a.Nodup → p ∈ a → q p = false → (a.filter fun n => !(decide (n = p) || q n)).length + 1 = (a.filter fun n => !q n).length
  | [], _, hp, _ => by cases hp
  | b :: a, hn, hp, hq => by
    obtain ⟨hn1, hn2⟩ := List.nodup_cons.1 hn
    by_cases e : b = p
    · subst e
      have : (a.filter fun n => !(decide (n = b) || q n)) = a.filter fun n => !q n := by
        refine List.filter_congr fun x hx => ?_
        have : decide (x = b) = false := decide_eq_false fun h => hn1 (h ▸ hx)
        rw [this, Bool.false_or]
      simp only [List.filter_cons, decide_true, Bool.true_or, Bool.not_true, Bool.false_eq_true, if_false, hq, Bool.not_false, if_true, List.length_cons, this]
    · have hpa : p ∈ a := by
        rcases List.mem_cons.1 hp with h | h
        · exact absurd h.symm e
        · exact h
      have ih := filter_one hn2 hpa hq
      have hd : decide (b = p) = false := decide_eq_false e
      simp only [List.filter_cons, hd, Bool.false_or]
      cases hb : q b with
      | true => simpa using ih
      | false => simp only [Bool.not_false, if_true, List.length_cons]; omega
theorem left_len {a : List Int} (ha : a.Nodup) : ∀ {h : List Int}, h.Nodup → (∀ n ∈ h, n ∈ a) → (kept (fun n => h.contains n) a).length + h.length = a.length
  | [], _, _ => by simp [kept]
  | p :: h, hn, hs => by
    obtain ⟨hn1, hn2⟩ := List.nodup_cons.1 hn
    have ih := left_len ha hn2 (fun n hm => hs n (List.mem_cons_of_mem _ hm))
    have hf := filter_one (q := fun n => h.contains n) ha (hs p (List.mem_cons_self ..)) (by
      cases hc : h.contains p with
      | false => rfl
      | true => exact absurd (List.contains_iff_mem.1 hc) hn1)
    have he : kept (fun n => (p :: h).contains n) a = a.filter fun n => !(decide (n = p) || h.contains n) := by
      refine List.filter_congr fun x _ => ?_
      show (!(p :: h).contains x) = _
      rw [List.contains_cons]
      congr 2
    rw [he, List.length_cons]
    simp only [kept] at ih
    omega
theorem putI_mem {p n : Int} {v : List Int} : n ∈ putI p v ↔ n = p ∨ n ∈ v := by
  unfold putI
  rw [List.mem_append, List.mem_cons]
  conv => rhs; rw [← List.take_append_drop (pos p v) v, List.mem_append]
  constructor
  · rintro (h | h | h)
    · exact .inr (.inl h)
    · exact .inl h
    · exact .inr (.inr h)
  · rintro (h | h | h)
    · exact .inr (.inl h)
    · exact .inl h
    · exact .inr (.inr h)
theorem pos_lt {p : Int} : ∀ (v : List Int) (m : Nat) (x : Int), m < pos p v → v[m]? = some x → x < p
  | [], m, x, h, _ => by simp [pos] at h
  | a :: t, m, x, h, hx => by
    by_cases e : a < p
    · rw [pos, if_pos e] at h
      cases m with
      | zero => injection hx with hx; omega
      | succ m => exact pos_lt t m x (by omega) (by simpa using hx)
    · rw [pos, if_neg e] at h; omega
theorem pos_ge {p : Int} : ∀ (v : List Int) (x : Int), v[pos p v]? = some x → ¬ x < p
  | [], x, h => by simp at h
  | a :: t, x, h => by
    by_cases e : a < p
    · rw [pos, if_pos e] at h
      exact pos_ge t x (by simpa using h)
    · rw [pos, if_neg e] at h
      injection h with h
      omega
theorem pos_le {p : Int} : ∀ v : List Int, pos p v ≤ v.length
  | [] => by simp [pos]
  | a :: t => by
    have := pos_le (p := p) t
    unfold pos
    split <;> simp <;> omega
theorem putI_risen {p : Int} {v : List Int} (h : risen v) (hp : p ∉ v) : risen (putI p v) := by
  have hl := pos_le (p := p) v
  have hlt : (v.take (pos p v)).length = pos p v := by simp; omega
  intro j a b ha hb
  unfold putI at ha hb
  by_cases h1 : j + 1 < pos p v
  · rw [List.getElem?_append_left (by omega), List.getElem?_take, if_pos (by omega)] at ha
    rw [List.getElem?_append_left (by omega), List.getElem?_take, if_pos (by omega)] at hb
    exact h j a b ha hb
  · by_cases h2 : j + 1 = pos p v
    · rw [List.getElem?_append_left (by omega), List.getElem?_take, if_pos (by omega)] at ha
      rw [List.getElem?_append_right (by omega), hlt, h2, Nat.sub_self] at hb
      injection hb with hb
      subst hb
      exact pos_lt v j a (by omega) ha
    · have hjp : pos p v ≤ j := by omega
      rw [List.getElem?_append_right (by omega), hlt, show j + 1 - pos p v = (j - pos p v) + 1 by omega, List.getElem?_cons_succ, List.getElem?_drop] at hb
      rw [List.getElem?_append_right (by omega), hlt] at ha
      rcases Nat.eq_zero_or_pos (j - pos p v) with e | e
      · rw [e] at ha hb
        injection ha with ha
        subst ha
        have h3 := pos_ge v b (by simpa using hb)
        have h4 : b ≠ p := fun h => hp (h ▸ List.mem_of_getElem? hb)
        omega
      · obtain ⟨m, hm⟩ : ∃ m, j - pos p v = m + 1 := ⟨j - pos p v - 1, by omega⟩
        rw [hm, List.getElem?_cons_succ, List.getElem?_drop] at ha
        rw [hm] at hb
        exact h (pos p v + m) a b ha (by rw [show pos p v + m + 1 = pos p v + (m + 1) by omega]; exact hb)
theorem rises_of {v : List Int} (h : risen v) : rises v = true := (rises_iff v).2 fun j hj => by
  obtain ⟨a, ha⟩ := get_lt (show j < v.length by omega)
  obtain ⟨b, hb⟩ := get_lt hj
  rw [List.getD_eq_getElem?_getD, List.getD_eq_getElem?_getD, ha, hb]
  exact h j a b ha hb
end Go.Pe.Try

set_option linter.all false
namespace Go.Pe.Try
open Go.Proofs.Try
theorem okA_iff (x : App) : okA x = true ↔ within x.i 1 999 = true ∧ within x.q 1 999 = true ∧ within x.d 0 20000 = true ∧ within x.s 0 4 = true ∧ (!decide (6 < (x.a.length : Int))) = true ∧ rises x.a = true ∧ rises x.h = true ∧ (x.a.all (fun n => within n 1 50)) = true ∧ (x.h.all (fun n => x.a.contains n)) = true ∧ (decide ((x.h.length : Int) < (x.a.length : Int)) == (decide (x.s = 0) || decide (x.s = 4))) = true := by
  unfold okA
  simp only [Bool.and_eq_true, and_assoc]
theorem wait_iff {x : App} {p : Int} : waitA x p = true ↔ x.s = 0 ∧ p ∈ x.a ∧ p ∉ x.h := by
  unfold waitA
  rw [Bool.and_eq_true, Bool.and_eq_true, decide_eq_true_eq, List.contains_iff_mem, Bool.not_eq_true', and_assoc]
  constructor
  · rintro ⟨h1, h2, h3⟩
    exact ⟨h1, h2, fun h => by rw [List.contains_iff_mem.2 h] at h3; cases h3⟩
  · rintro ⟨h1, h2, h3⟩
    refine ⟨h1, h2, ?_⟩
    cases hc : x.h.contains p with
    | false => rfl
    | true => exact absurd (List.contains_iff_mem.1 hc) h3
theorem open_lt {x : App} (hx : okA x = true) (hs : x.s = 0 ∨ x.s = 4) : x.h.length < x.a.length := by
  have h := ((okA_iff x).1 hx).2.2.2.2.2.2.2.2.2
  have : (decide (x.s = 0) || decide (x.s = 4)) = true := by
    rcases hs with hs | hs <;> simp [hs]
  rw [this, beq_true] at h
  have := of_decide_eq_true h
  omega
theorem okA_hear {x : App} {p : Int} (hx : okA x = true) (hw : waitA x p = true) : okA (hearA x p) = true := by
  obtain ⟨hs, hpa, hph⟩ := wait_iff.1 hw
  have hlt := open_lt hx (.inl hs)
  obtain ⟨h1, h2, h3, h4, h5, h6, h7, h8, h9, h10⟩ := (okA_iff x).1 hx
  have hl : (putI p x.h).length = x.h.length + 1 := putI_len
  refine (okA_iff _).2 ⟨h1, h2, h3, ?_, h5, h6, rises_of (putI_risen (risen_of h7) hph), h8, ?_, ?_⟩
  · show within (if ((putI p x.h).length : Int) = (x.a.length : Int) then 1 else x.s) 0 4 = true
    split
    · rfl
    · exact h4
  · rw [List.all_eq_true] at h9 ⊢
    intro n hn
    rcases putI_mem.1 hn with rfl | hn
    · exact List.contains_iff_mem.2 hpa
    · exact h9 n hn
  · show (decide (((putI p x.h).length : Int) < (x.a.length : Int)) == (decide ((if ((putI p x.h).length : Int) = (x.a.length : Int) then 1 else x.s) = 0) || decide ((if ((putI p x.h).length : Int) = (x.a.length : Int) then 1 else x.s) = 4))) = true
    by_cases e : ((putI p x.h).length : Int) = (x.a.length : Int)
    · rw [if_pos e, e]
      simp
    · rw [if_neg e, hs]
      have : decide (((putI p x.h).length : Int) < (x.a.length : Int)) = true := decide_eq_true (by omega)
      rw [this]
      rfl
theorem okA_lap {x : App} {day : Int} (hx : okA x = true) : okA (lap day x) = true := by
  unfold lap
  split
  · rename_i h
    have hs : x.s = 0 := by
      simp only [lapB, Bool.and_eq_true, decide_eq_true_eq] at h
      exact h.1
    have hlt := open_lt hx (.inl hs)
    obtain ⟨h1, h2, h3, h4, h5, h6, h7, h8, h9, h10⟩ := (okA_iff x).1 hx
    refine (okA_iff _).2 ⟨h1, h2, h3, rfl, h5, h6, h7, h8, h9, ?_⟩
    show (decide ((x.h.length : Int) < (x.a.length : Int)) == true) = true
    rw [decide_eq_true (show (x.h.length : Int) < (x.a.length : Int) by omega)]
    rfl
  · exact hx
theorem okA_dec {x : App} {b : Bool} (hx : okA x = true) (hs : x.s = 1) : okA { x with s := decS b } = true := by
  obtain ⟨h1, h2, h3, h4, h5, h6, h7, h8, h9, h10⟩ := (okA_iff x).1 hx
  rw [hs] at h10
  refine (okA_iff _).2 ⟨h1, h2, h3, ?_, h5, h6, h7, h8, h9, ?_⟩
  · show within (decS b) 0 4 = true
    cases b <;> rfl
  · show (decide ((x.h.length : Int) < (x.a.length : Int)) == (decide (decS b = 0) || decide (decS b = 4))) = true
    have h10 : decide ((x.h.length : Int) < (x.a.length : Int)) = false := by simpa using h10
    rw [h10]
    cases b <;> rfl
/-- a party was heard: what is left, and who decides. -/
theorem hear_law {xs ys : List App} {id p : Int} (h : hearR xs id p = some ys) : ∃ u v, nhR xs id = some u ∧ nhR ys id = some v ∧ u.length = v.length + 1 ∧ u.contains p = true ∧ v.contains p = false ∧ goodA ys = true ∧ ((decR ys id true).isSome = decide (v.length = 0)) := by
  rcases find_cases xs id with ⟨_, hn'⟩ | ⟨i, x, hi, hr, hid⟩
  · rw [hearR_neg hn'] at h; cases h
  rw [hearR_at hi hr] at h
  split at h
  case isFalse => cases h
  rename_i hok
  injection h with h
  subst h
  rw [hearOK, Bool.and_eq_true] at hok
  obtain ⟨hg, hw⟩ := hok
  obtain ⟨hs, hpa, hph⟩ := wait_iff.1 hw
  have hoA := (((goodP_iff xs).1 hg).2 i x hr).1
  have hok' := okA_hear hoA hw
  have hil := lt_of_get hr
  have hg' : goodA (xs.set i (hearA x p)) = true := good_set hg hr rfl rfl hok' (fun _ => by simp [pend, hs])
  have hr' : (xs.set i (hearA x p))[i]? = some (hearA x p) := by rw [List.getElem?_set, if_pos rfl, if_pos hil]
  have hi' : findA (xs.set i (hearA x p)) id = (i : Int) := by
    have := find_of hg' hr'
    rw [show (hearA x p).i = x.i from rfl, hid] at this
    exact this
  have hP := okA_parts hoA
  have han : x.a.Nodup := risen_nodup (risen_of hP.2.2.2.2.2.1)
  have hhn : x.h.Nodup := risen_nodup (risen_of hP.2.2.2.2.2.2.1)
  have hP' := okA_parts hok'
  have hhn' : (putI p x.h).Nodup := risen_nodup (risen_of hP'.2.2.2.2.2.2.1)
  have l1 : (leftA x).length + x.h.length = x.a.length := left_len han hhn hP.2.2.2.2.2.2.2.2
  have l2 : (leftA (hearA x p)).length + (putI p x.h).length = x.a.length := left_len han hhn' hP'.2.2.2.2.2.2.2.2
  have hpl : (putI p x.h).length = x.h.length + 1 := putI_len
  refine ⟨leftA x, leftA (hearA x p), by rw [nhR_at hi hr, if_pos hg], by rw [nhR_at hi' hr', if_pos hg'], by omega, ?_, ?_, hg', ?_⟩
  · rw [List.contains_iff_mem]
    refine List.mem_filter.2 ⟨hpa, ?_⟩
    cases hc : x.h.contains p with
    | false => show (!x.h.contains p) = true; rw [hc]; rfl
    | true => exact absurd (List.contains_iff_mem.1 hc) hph
  · cases hc : (leftA (hearA x p)).contains p with
    | false => rfl
    | true =>
      have this : (!(hearA x p).h.contains p) = true := (List.mem_filter.1 (List.contains_iff_mem.1 hc)).2
      have hin : (hearA x p).h.contains p = true := List.contains_iff_mem.2 (putI_mem.2 (.inl rfl))
      rw [hin] at this
      cases this
  · rw [decR_at hi' hr', decOK, hg', Bool.true_and]
    have hS : (hearA x p).s = if ((putI p x.h).length : Int) = (x.a.length : Int) then 1 else x.s := rfl
    by_cases e : ((putI p x.h).length : Int) = (x.a.length : Int)
    · rw [hS, if_pos e]
      have : (leftA (hearA x p)).length = 0 := by omega
      simp [this]
    · rw [hS, if_neg e, hs]
      have : ¬ (leftA (hearA x p)).length = 0 := by omega
      simp [this]
theorem kept_all {α : Type} (v : List α) : kept (fun _ => false) v = v := by
  unfold kept
  rw [List.filter_eq_self]
  intro x _
  rfl
/-- a new appeal asks all its parties. -/
theorem new_law {xs : List App} {q d : Int} {a : List Int} (h : newOK xs q d a = true) : nhR (xs ++ [newA xs q d a]) (newI xs) = some a := by
  rw [newOK, Bool.and_eq_true] at h
  have hr : (xs ++ [newA xs q d a])[xs.length]? = some (newA xs q d a) := by simp
  have hf := find_of h.2 hr
  have hf : findA (xs ++ [newA xs q d a]) (newI xs) = (xs.length : Int) := hf
  rw [nhR_at hf hr, if_pos h.2]
  show some (kept (fun n => ([] : List Int).contains n) a) = some a
  congr 1
  exact kept_all a
theorem gcd_den {a b : Nat} (h : 0 < b) : 1 ≤ (b : Int).tdiv (Nat.gcd a b : Nat) := by
  have hg := Nat.gcd_pos_of_pos_right a h
  obtain ⟨c, hc⟩ := Nat.gcd_dvd_right a b
  have hc0 : 0 < c := by
    rcases Nat.eq_zero_or_pos c with e | e
    · rw [e] at hc; omega
    · exact e
  have : (b : Int).tdiv (Nat.gcd a b : Nat) = c := by
    conv => lhs; arg 1; rw [hc]
    rw [Int.natCast_mul, Int.mul_tdiv_cancel_left _ (by omega)]
  rw [this]; omega
/-- of decided ones there is a share. -/
theorem dec_law {xs ys : List App} {id : Int} {b : Bool} (h : decR xs id b = some ys) : ∃ m n : Int, wonR ys = [.int .i64 m, .int .i64 n, .bool true] ∧ 1 ≤ n := by
  rcases find_cases xs id with ⟨_, hn'⟩ | ⟨i, x, hi, hr, hid⟩
  · rw [decR_neg hn'] at h; cases h
  rw [decR_at hi hr] at h
  split at h
  case isFalse => cases h
  rename_i hok
  injection h with h
  subst h
  rw [decOK, Bool.and_eq_true, decide_eq_true_eq] at hok
  obtain ⟨hg, hs⟩ := hok
  have hoA := (((goodP_iff xs).1 hg).2 i x hr).1
  have hg' : goodA (decL xs i x b) = true := good_set hg hr rfl rfl (okA_dec hoA hs) (fun h => by cases b <;> cases h)
  have hm : ({ x with s := decS b } : App) ∈ decL xs i x b := by
    refine List.mem_of_getElem? (i := i) ?_
    unfold decL
    rw [List.getElem?_set, if_pos rfl, if_pos (lt_of_get hr)]
  have hd : 0 < (decL xs i x b).countP isDone := List.countP_pos_iff.2 ⟨_, hm, by cases b <;> rfl⟩
  refine ⟨((decL xs i x b).countP isWon : Int).tdiv (Nat.gcd ((decL xs i x b).countP isWon) ((decL xs i x b).countP isDone) : Nat), _, ?_, gcd_den (a := (decL xs i x b).countP isWon) hd⟩
  unfold wonR
  rw [hg', decide_eq_false (by omega)]
  rfl
/-- who waits was not heard. -/
theorem wait_law {xs : List App} {p : Int} (h : waitOK xs p = true) {id : Int} (hid : id ∈ waitIds xs p) : ∃ u, nhR xs id = some u ∧ u.contains p = true := by
  rw [waitOK, Bool.and_eq_true] at h
  obtain ⟨hg, _⟩ := h
  have hmem : ∀ (L acc : List App) (y : App), y ∈ L.foldl (fun acc x => insA x acc) acc → y ∈ acc ∨ y ∈ L := by
    intro L
    induction L with
    | nil => intro acc y hy; exact .inl hy
    | cons a L ih =>
      intro acc y hy
      rcases ih _ y hy with h1 | h1
      · rcases insA_mem h1 with h2 | h2
        · exact .inr (by simp [h2])
        · exact .inl h2
      · exact .inr (List.mem_cons_of_mem _ h1)
  obtain ⟨x, hx, rfl⟩ := List.mem_map.1 hid
  have hx : x ∈ waitL xs p := by
    rcases hmem _ _ x hx with h1 | h1
    · cases h1
    · exact h1
  obtain ⟨hxm, hw⟩ := List.mem_filter.1 hx
  obtain ⟨i, hi⟩ := List.getElem?_of_mem hxm
  obtain ⟨hs, hpa, hph⟩ := wait_iff.1 hw
  refine ⟨leftA x, by rw [nhR_at (find_of hg hi) hi, if_pos hg], ?_⟩
  rw [List.contains_iff_mem]
  refine List.mem_filter.2 ⟨hpa, ?_⟩
  cases hc : x.h.contains p with
  | false => show (!x.h.contains p) = true; rw [hc]; rfl
  | true => exact absurd (List.contains_iff_mem.1 hc) hph
/-- lapsing twice on a day is lapsing once. -/
theorem lap_law {xs : List App} {day : Int} (hg : goodA xs = true) : goodA (xs.map (lap day)) = true ∧ (xs.map (lap day)).map (lap day) = xs.map (lap day) ∧ lapIds day (xs.map (lap day)) = [] := by
  have hB : ∀ x : App, lapB day (lap day x) = false := by
    intro x
    unfold lap
    split
    · rfl
    · rename_i h; simpa using h
  refine ⟨good_map hg fun x _ hx => ⟨?_, ?_, okA_lap hx, ?_⟩, ?_, ?_⟩
  · unfold lap; split <;> rfl
  · unfold lap; split <;> rfl
  · unfold lap
    split
    · intro h; cases h
    · exact id
  · rw [List.map_map]
    refine List.map_congr_left fun x _ => ?_
    show lap day (lap day x) = lap day x
    have no : ∀ y : App, lapB day y = false → lap day y = y := fun y h => by unfold lap; rw [h]; rfl
    exact no _ (hB x)
  · unfold lapIds
    rw [List.filter_eq_nil_iff.2, List.map_nil]
    intro x hx
    obtain ⟨y, _, rfl⟩ := List.mem_map.1 hx
    rw [hB y]
    simp
/-- an appeal with no day left lapses on the next one. -/
theorem days_law {xs : List App} {id on : Int} : ∃ (m : Int) (b : Bool), daysR xs id on = [.int .i64 m, .bool b] ∧ 0 ≤ m ∧ m ≤ 60 ∧ (b = true → (lapIds (on + 1) xs).contains id = decide (m = 0)) := by
  rcases find_cases xs id with ⟨_, hn'⟩ | ⟨i, x, hi, hr, hid⟩
  · exact ⟨0, false, daysR_neg hn', by omega, by omega, fun h => by cases h⟩
  rw [daysR_at hi hr]
  split
  case isFalse => exact ⟨0, false, rfl, by omega, by omega, fun h => by cases h⟩
  rename_i hok
  simp only [dlOK, Bool.and_eq_true, decide_eq_true_eq] at hok
  obtain ⟨⟨⟨hg, hs⟩, _⟩, hd⟩ := hok
  refine ⟨_, true, rfl, by omega, by omega, fun _ => ?_⟩
  have hxm := List.mem_of_getElem? hr
  have hiff : (lapIds (on + 1) xs).contains id = lapB (on + 1) x := by
    cases hb : lapB (on + 1) x with
    | true => exact List.contains_iff_mem.2 (List.mem_map.2 ⟨x, List.mem_filter.2 ⟨hxm, hb⟩, hid⟩)
    | false =>
      cases hc : (lapIds (on + 1) xs).contains id with
      | false => rfl
      | true =>
        obtain ⟨y, hy, hyi⟩ := List.mem_map.1 (List.contains_iff_mem.1 hc)
        obtain ⟨hym, hyb⟩ := List.mem_filter.1 hy
        have := uniq_of hg hym hxm (by omega)
        rw [this, hb] at hyb
        cases hyb
  rw [hiff, lapB, hs]
  simp only [decide_true, Bool.true_and]
  exact decide_eq_decide.2 (by omega)
theorem won_law (xs : List App) : ∃ (m n : Int) (b : Bool), wonR xs = [.int .i64 m, .int .i64 n, .bool b] ∧ (b = true → m ≤ n) := by
  unfold wonR
  split
  · rename_i hc
    refine ⟨_, _, true, rfl, fun _ => ?_⟩
    have h := isWon_le xs
    simp only [Bool.and_eq_true, Bool.not_eq_true', decide_eq_false_iff_not] at hc
    have hg := Nat.gcd_pos_of_pos_right (xs.countP isWon) (show 0 < xs.countP isDone by omega)
    exact Int.tdiv_le_tdiv (by omega) (by omega)
  · exact ⟨0, 0, false, rfl, fun h => by cases h⟩
end Go.Pe.Try

set_option maxRecDepth 100000
set_option maxHeartbeats 4000000
set_option linter.all false
namespace Go.Pe.Try
open Go.Proofs.Try
theorem specIsAppeal_fn (x : App) (hx : x.ok0) : Fn prog 60 [x.d'] (fun rs => rs = [.bool (okA x)]) := by
  refine Fn_of' (fn := f60) (by exact func60) c60 r60 (n := 5) (by rfl) (rv := [.tmp 2]) (by rfl) (by simp) ?_
  unfold m60
  repeat' (first
      | (simp only [onC_true, ↓rd_app, oa_size, oa_isV, App.noOwn, ↓wA, ↓wC, wB, frzBE, frzBS, Nat.reduceEqDiff, Nat.reduceAdd, Nat.reduceSub, reduceIte, reduceCtorEq, Nat.reduceBEq, Nat.reduceLT, decide_true])
      | (refine call_det (l24One_fn x hx) rfl rfl ?_)
      | (refine callP_det (l24One_fn x hx) rfl rfl ?_)
      | (refine execG_split (fun h => ?_) (fun h => ?_) <;> simp only [h])
      | (refine execC_split (fun h => ?_) (fun h => ?_) <;> (try simp only [h]))
      | (refine onPick_split (fun h => ?_) (fun h => ?_) <;> (try simp only [h])))
structure Held (p : Prop) : Prop where
  out : p
theorem cutT {G : Prop} (T : Prop) (m : Held T → G) (r : T) : G := m ⟨r⟩
theorem drawn_ok {xs : List App} (h : drawnL xs) : xs.length ≤ 1048576 ∧ ∀ x ∈ xs, x.ok0 := ⟨by have := h.1; omega, fun x hx => App.few_ok (h.2 x hx)⟩
theorem hearR_bd' (xs : List App) (id p : Int) (hlen : xs.length ≤ 1048576) (hx : ∀ x ∈ xs, x.ok0) (ys : List App) (h : hearR xs id p = some ys) : ys.length ≤ 1048576 ∧ ∀ y ∈ ys, y.ok0 := by
  rcases find_cases xs id with ⟨hn, hn'⟩ | ⟨i, x, hi, hr, _⟩
  · rw [hearR_neg hn'] at h; cases h
  · rw [hearR_at hi hr] at h
    split at h
    · rename_i hok
      injection h with h
      subst h
      rw [hearOK, Bool.and_eq_true] at hok
      have hw := wait_parts hok.1 (List.mem_of_getElem? hr) hok.2
      refine ⟨by simp; exact hlen, fun y hy => ?_⟩
      rcases List.mem_or_eq_of_mem_set hy with h | h
      · exact hx y h
      · subst h
        have h1 : (putI p x.h).length = x.h.length + 1 := putI_len
        have h2 := hw.2.1
        exact ⟨(hx x (List.mem_of_getElem? hr)).1, by show (putI p x.h).length ≤ _; omega⟩
    · cases h
theorem nhR_bd {xs : List App} {id : Int} {v : List Int} (hx : ∀ x ∈ xs, x.ok0) (h : nhR xs id = some v) : v.length ≤ 1048576 := by
  unfold nhR at h
  split at h
  · rename_i x hr
    split at h
    · injection h with h
      subst h
      exact Nat.le_trans (List.length_filter_le _ _) (hx x (List.mem_of_getElem? hr)).1
    · cases h
  · cases h
theorem decR_bd' (xs : List App) (id : Int) (b : Bool) (hlen : xs.length ≤ 1048576) (hx : ∀ x ∈ xs, x.ok0) (ys : List App) (h : decR xs id b = some ys) : ys.length ≤ 1048576 ∧ ∀ y ∈ ys, y.ok0 := by
  rcases find_cases xs id with ⟨hn, hn'⟩ | ⟨i, x, hi, hr, _⟩
  · rw [decR_neg hn'] at h; cases h
  · rw [decR_at hi hr] at h
    split at h
    · injection h with h
      subst h
      refine ⟨by simp [decL]; exact hlen, fun y hy => ?_⟩
      rcases List.mem_or_eq_of_mem_set hy with h | h
      · exact hx y h
      · subst h; exact hx x (List.mem_of_getElem? hr)
    · cases h
theorem fnAppeals_fn (code : List UInt8) : Fn prog 6 [.sl false 1 (bytesD code)] (fun rs => rs = [.bool true]) := by
  have hB := rBig_fn code
  cases hb : decide ((65536 : Int) < (code.length : Int)) with
  | true =>
    rw [hb] at hB
    refine Fn_of' (fn := f6) (by exact func6) c6 r6 (n := 262) (by rfl) (rv := [.tmp 2]) (by rfl) (by simp) ?_
    unfold m6
    repeat' (first
        | (simp only [↓wA, ↓wC, wB, frzBE, frzBS, Nat.reduceEqDiff, Nat.reduceAdd, Nat.reduceSub, reduceIte, reduceCtorEq, Nat.reduceBEq, Nat.reduceLT, decide_true])
        | (refine call_det (hB) rfl rfl ?_)
        | (refine callP_det (hB) rfl rfl ?_)
        | (refine execG_split (fun h => ?_) (fun h => ?_) <;> simp only [h])
        | (refine execC_split (fun h => ?_) (fun h => ?_) <;> (try simp only [h]))
        | (refine onPick_split (fun h => ?_) (fun h => ?_) <;> (try simp only [h])))
  | false =>
    rw [hb] at hB
    have hc : code.length ≤ 1048576 := by have := of_decide_eq_false hb; omega
    refine Fn_ofg (ps := [[1, 1, 1, 1, 1, 1, 1, 1, 1, 1, 1, 1, 1, 1, 0], [1, 1, 1, 1, 1, 1, 1, 1, 1, 1, 0], [1, 1, 1, 1, 1, 1, 0]]) (fn := f6) (by exact func6) c6 r6 (n := 262) (by rfl) (rv := [.tmp 2]) (by rfl) (by simp) ?_
    unfold m6
    simp only [ghAll, ghAt]
    repeat' (first
        | (simp only [↓wA, ↓wC, wB, frzBE, frzBS, Nat.reduceEqDiff, Nat.reduceAdd, Nat.reduceSub, reduceIte, reduceCtorEq, Nat.reduceBEq, Nat.reduceLT, decide_true])
        | (refine call_det (hB) rfl rfl ?_)
        | (refine callP_det (hB) rfl rfl ?_)
        | (refine execG_split (fun h => ?_) (fun h => ?_) <;> simp only [h])
        | (refine execC_split (fun h => ?_) (fun h => ?_) <;> (try simp only [h]))
        | (refine onPick_split (fun h => ?_) (fun h => ?_) <;> (try simp only [h])))
    refine call_rel (drawHear_fn code hc) rfl fun rs h => ?_
    obtain ⟨xs, id, p, rfl, hxs⟩ := h
    obtain ⟨hxl, hxo⟩ := drawn_ok hxs
    have hno := apps_noOwn xs
    refine ⟨.inl rfl, ?_⟩
    apply cutT
    case m =>
      intro rest
      have hI := hearParty_fn xs id p hxl hxo
      have hS := specHear_fn xs id p hxl hxo
      cases hR : hearR xs id p with
      | none =>
        rw [hR] at hI hS
        have hA := rAppeals_refl [] (by simp) (by simp)
        have hA' : Fn prog 38 [.sl false 6 .nil, .sl false 6 .nil] (fun rs => rs = [.bool true]) := hA
        repeat' (first
            | (simp only [hno, listR, onC_true, ↓wA, ↓wC, wB, frzBE, frzBS, Nat.reduceEqDiff, Nat.reduceAdd, Nat.reduceSub, reduceIte, reduceCtorEq, Nat.reduceBEq, Nat.reduceLT, decide_true])
            | (refine call_det (hI) rfl rfl ?_)
            | (refine callP_det (hI) rfl rfl ?_)
            | (refine call_det (hS) rfl rfl ?_)
            | (refine callP_det (hS) rfl rfl ?_)
            | (refine call_det (hA') rfl rfl ?_)
            | (refine callP_det (hA') rfl rfl ?_)
            | (refine execG_split (fun h => ?_) (fun h => ?_) <;> simp only [h])
            | (refine execC_split (fun h => ?_) (fun h => ?_) <;> (try simp only [h]))
            | (refine onPick_split (fun h => ?_) (fun h => ?_) <;> (try simp only [h])))
        refine exec_gh1 (weak_of (s' := ⟨[(0, .d (.sl false 1 (bytesD code)))], []⟩) _ rfl ⟨⟨rfl, rfl⟩, trivial⟩) ?_
        exact rest.out
      | some ys =>
        rw [hR] at hI hS
        obtain ⟨hyl, hyo⟩ := hearR_bd' xs id p hxl hxo ys hR
        obtain ⟨u, v, hu, hv, huv, hup, hvp, hgy, hdec⟩ := hear_law hR
        have hul := nhR_bd hxo hu
        have hA' : Fn prog 38 [.sl false 6 (dl App.o ys).unown, .sl false 6 (dl App.d' ys).unown] (fun rs => rs = [.bool true]) := by rw [dlo_unown, show (dl App.d' ys).unown = appsD ys from apps_unown ys]; exact rAppeals_refl ys hyl hyo
        have hN1 := notHeard_fn xs id hxl hxo
        rw [hu] at hN1
        have hN2 : Fn prog 10 [.sl false 6 (dl App.o ys).unown, .int .i64 id] (fun rs => rs = intsR (some v)) := by rw [dlo_unown, ← hv]; exact notHeard_fn ys id hyl hyo
        have hG : Fn prog 51 [.sl false 6 (dl App.o ys).unown] (fun rs => rs = [.bool true]) := by rw [dlo_unown, ← hgy]; exact areAppeals_fn ys hyl hyo
        have hH1 : Fn prog 28 [.sl false 1 (dl iD u).unown, .int .i64 p] (fun rs => rs = [.bool true]) := by rw [ints_unown, ← hup]; exact rHas_fn u p hul
        have hH2 : Fn prog 28 [.sl false 1 (dl iD v).unown, .int .i64 p] (fun rs => rs = [.bool false]) := by
          have h := rHas_fn v p (by omega)
          rw [hvp] at h
          rw [ints_unown]; exact h
        have hq : decide ((u.length : Int) = (v.length : Int) + 1) = true := decide_eq_true (by omega)
        have hD := decideAppeal_fn ys id true hyl hyo
        cases hQ : decR ys id true with
        | none =>
          rw [hQ] at hD hdec
          have hv0 : decide ((v.length : Int) = 0) = false := decide_eq_false fun h => by
            rw [decide_eq_true (show v.length = 0 by omega)] at hdec
            cases hdec
          have hD' : Fn prog 50 [.sl false 6 (dl App.o ys).unown, .int .i64 id, .bool true] (fun rs => rs = listR App.o none) := by rw [dlo_unown]; exact hD
          repeat' (first
              | (simp only [hno, listR, intsR, dl_len, hq, hv0, onC_true, ↓wA, ↓wC, wB, frzBE, frzBS, Nat.reduceEqDiff, Nat.reduceAdd, Nat.reduceSub, reduceIte, reduceCtorEq, Nat.reduceBEq, Nat.reduceLT, decide_true])
              | (refine call_det (hI) rfl rfl ?_)
              | (refine callP_det (hI) rfl rfl ?_)
              | (refine call_det (hS) rfl rfl ?_)
              | (refine callP_det (hS) rfl rfl ?_)
              | (refine call_det (hA') rfl rfl ?_)
              | (refine callP_det (hA') rfl rfl ?_)
              | (refine call_det (hN1) rfl rfl ?_)
              | (refine callP_det (hN1) rfl rfl ?_)
              | (refine call_det hN2 rfl (by simp [intsR, D.allOwn, dl_allOwn iD_allOwn]) ?_)
              | (refine call_det hD' rfl (by simp [listR, D.allOwn, dlo_own]) ?_)
              | (refine call_det (hH1) rfl rfl ?_)
              | (refine callP_det (hH1) rfl rfl ?_)
              | (refine call_det (hH2) rfl rfl ?_)
              | (refine callP_det (hH2) rfl rfl ?_)
              | (refine call_det (hG) rfl rfl ?_)
              | (refine callP_det (hG) rfl rfl ?_)
              | (with_reducible refine onI_bare ?_ ?_; focus (simp only [InR]; omega))
              | (refine execG_split (fun h => ?_) (fun h => ?_) <;> simp only [h])
              | (refine execC_split (fun h => ?_) (fun h => ?_) <;> (try simp only [h]))
              | (refine onPick_split (fun h => ?_) (fun h => ?_) <;> (try simp only [h])))
          refine exec_gh1 (weak_of (s' := ⟨[(0, .d (.sl false 1 (bytesD code)))], []⟩) _ rfl ⟨⟨rfl, rfl⟩, trivial⟩) ?_
          exact rest.out
        | some zs =>
          rw [hQ] at hD hdec
          have hv0 : decide ((v.length : Int) = 0) = true := decide_eq_true (by
            have := of_decide_eq_true hdec.symm
            omega)
          have hD' : Fn prog 50 [.sl false 6 (dl App.o ys).unown, .int .i64 id, .bool true] (fun rs => rs = listR App.o (some zs)) := by rw [dlo_unown]; exact hD
          repeat' (first
              | (simp only [hno, listR, intsR, dl_len, hq, hv0, onC_true, ↓wA, ↓wC, wB, frzBE, frzBS, Nat.reduceEqDiff, Nat.reduceAdd, Nat.reduceSub, reduceIte, reduceCtorEq, Nat.reduceBEq, Nat.reduceLT, decide_true])
              | (refine call_det (hI) rfl rfl ?_)
              | (refine callP_det (hI) rfl rfl ?_)
              | (refine call_det (hS) rfl rfl ?_)
              | (refine callP_det (hS) rfl rfl ?_)
              | (refine call_det (hA') rfl rfl ?_)
              | (refine callP_det (hA') rfl rfl ?_)
              | (refine call_det (hN1) rfl rfl ?_)
              | (refine callP_det (hN1) rfl rfl ?_)
              | (refine call_det hN2 rfl (by simp [intsR, D.allOwn, dl_allOwn iD_allOwn]) ?_)
              | (refine call_det hD' rfl (by simp [listR, D.allOwn, dlo_own]) ?_)
              | (refine call_det (hH1) rfl rfl ?_)
              | (refine callP_det (hH1) rfl rfl ?_)
              | (refine call_det (hH2) rfl rfl ?_)
              | (refine callP_det (hH2) rfl rfl ?_)
              | (refine call_det (hG) rfl rfl ?_)
              | (refine callP_det (hG) rfl rfl ?_)
              | (with_reducible refine onI_bare ?_ ?_; focus (simp only [InR]; omega))
              | (refine execG_split (fun h => ?_) (fun h => ?_) <;> simp only [h])
              | (refine execC_split (fun h => ?_) (fun h => ?_) <;> (try simp only [h]))
              | (refine onPick_split (fun h => ?_) (fun h => ?_) <;> (try simp only [h])))
          refine exec_gh1 (weak_of (s' := ⟨[(0, .d (.sl false 1 (bytesD code)))], []⟩) _ rfl ⟨⟨rfl, rfl⟩, trivial⟩) ?_
          exact rest.out
    clear hxs hxl hxo hno
    simp only [↓wA, ↓wC, wB, frzBE, frzBS, Nat.reduceEqDiff, Nat.reduceAdd, Nat.reduceSub, reduceIte, reduceCtorEq, Nat.reduceBEq, Nat.reduceLT, decide_true]
    refine call_rel (drawNew_fn code hc) rfl fun rs h => ?_
    obtain ⟨l, q, d, a, rfl, hxs, hal⟩ := h
    obtain ⟨hxl, hxo⟩ := drawn_ok hxs
    have hno := apps_noOwn l
    refine ⟨.inl rfl, ?_⟩
    apply cutT
    case m =>
      intro rest
      have hI := newAppeal_fn l q d a hxl hxo (by omega)
      have hS := specNew_fn l q d a hxl hxo (by omega)
      cases hR : newOK l q d a with
      | false =>
        have hI' : Fn prog 53 [.sl false 6 (appsD l), .int .i64 q, .int .i64 d, .sl false 1 (dl iD a)] (fun rs => rs = [.sl true 6 .nil, .int .i64 0, .bool false]) := by rw [newR, hR] at hI; exact hI
        have hS' : Fn prog 54 [.sl false 6 (appsD l), .int .i64 q, .int .i64 d, .sl false 1 (dl iD a)] (fun rs => rs = [.sl true 6 .nil, .int .i64 0, .bool false]) := by rw [newR, hR] at hS; exact hS
        have hA' : Fn prog 38 [.sl false 6 .nil, .sl false 6 .nil] (fun rs => rs = [.bool true]) := rAppeals_refl [] (by simp) (by simp)
        repeat' (first
            | (simp only [hno, ints_noOwn, onC_true, ↓wA, ↓wC, wB, frzBE, frzBS, Nat.reduceEqDiff, Nat.reduceAdd, Nat.reduceSub, reduceIte, reduceCtorEq, Nat.reduceBEq, Nat.reduceLT, decide_true])
            | (refine execG_split (fun h => ?_) (fun h => ?_) <;> simp only [h])
            | (refine execC_split (fun h => ?_) (fun h => ?_) <;> (try simp only [h]))
            | (refine onPick_split (fun h => ?_) (fun h => ?_) <;> (try simp only [h])))
        refine call_frz 0 ?_
        simp only [frz1, frzE, frzS, D.unown, ints_unown, ↓wA, ↓wC, wB, frzBE, frzBS, Nat.reduceEqDiff, Nat.reduceAdd, Nat.reduceSub, reduceIte, reduceCtorEq, Nat.reduceBEq, Nat.reduceLT, decide_true]
        repeat' (first
            | (simp only [hno, ints_noOwn, onC_true, ↓wA, ↓wC, wB, frzBE, frzBS, Nat.reduceEqDiff, Nat.reduceAdd, Nat.reduceSub, reduceIte, reduceCtorEq, Nat.reduceBEq, Nat.reduceLT, decide_true])
            | (refine call_det (hI') rfl rfl ?_)
            | (refine callP_det (hI') rfl rfl ?_)
            | (refine call_det (hS') rfl rfl ?_)
            | (refine callP_det (hS') rfl rfl ?_)
            | (refine call_det (hA') rfl rfl ?_)
            | (refine callP_det (hA') rfl rfl ?_)
            | (refine execG_split (fun h => ?_) (fun h => ?_) <;> simp only [h])
            | (refine execC_split (fun h => ?_) (fun h => ?_) <;> (try simp only [h]))
            | (refine onPick_split (fun h => ?_) (fun h => ?_) <;> (try simp only [h])))
        refine exec_gh1 (weak_of (s' := ⟨[(0, .d (.sl false 1 (bytesD code)))], []⟩) _ rfl ⟨⟨rfl, rfl⟩, trivial⟩) ?_
        exact rest.out
      | true =>
        have hN := new_law hR
        generalize hY : l ++ [newA l q d a] = ys at hN
        have hyl : ys.length ≤ 1048576 := by rw [← hY]; have := hxs.1; simp; omega
        have hyo : ∀ y ∈ ys, y.ok0 := by
          rw [← hY]
          intro y hy
          rcases List.mem_append.1 hy with hy | hy
          · exact hxo y hy
          · rw [List.mem_singleton.1 hy]; exact ⟨by show a.length ≤ _; omega, by show ([] : List Int).length ≤ _; simp⟩
        have hI' : Fn prog 53 [.sl false 6 (appsD l), .int .i64 q, .int .i64 d, .sl false 1 (dl iD a)] (fun rs => rs = [.sl true 6 (dl App.o ys), .int .i64 (newI l), .bool true]) := by rw [newR, hR, hY] at hI; exact hI
        have hS' : Fn prog 54 [.sl false 6 (appsD l), .int .i64 q, .int .i64 d, .sl false 1 (dl iD a)] (fun rs => rs = [.sl true 6 (dl App.d' ys), .int .i64 (newI l), .bool true]) := by rw [newR, hR, hY] at hS; exact hS
        have hA' : Fn prog 38 [.sl false 6 (dl App.o ys).unown, .sl false 6 (dl App.d' ys).unown] (fun rs => rs = [.bool true]) := by rw [dlo_unown, show (dl App.d' ys).unown = appsD ys from apps_unown ys]; exact rAppeals_refl ys hyl hyo
        have hN2 : Fn prog 10 [.sl false 6 (dl App.o ys).unown, .int .i64 (newI l)] (fun rs => rs = intsR (some a)) := by rw [dlo_unown, ← hN]; exact notHeard_fn ys (newI l) hyl hyo
        have hJ : Fn prog 27 [.sl false 1 (dl iD a).unown, .sl false 1 (dl iD a)] (fun rs => rs = [.bool true]) := by rw [ints_unown]; exact rInts_refl a (by omega)
        repeat' (first
            | (simp only [hno, intsR, ints_noOwn, onC_true, ↓wA, ↓wC, wB, frzBE, frzBS, Nat.reduceEqDiff, Nat.reduceAdd, Nat.reduceSub, reduceIte, reduceCtorEq, Nat.reduceBEq, Nat.reduceLT, decide_true])
            | (refine execG_split (fun h => ?_) (fun h => ?_) <;> simp only [h])
            | (refine execC_split (fun h => ?_) (fun h => ?_) <;> (try simp only [h]))
            | (refine onPick_split (fun h => ?_) (fun h => ?_) <;> (try simp only [h])))
        refine call_frz 0 ?_
        simp only [frz1, frzE, frzS, D.unown, ints_unown, ↓wA, ↓wC, wB, frzBE, frzBS, Nat.reduceEqDiff, Nat.reduceAdd, Nat.reduceSub, reduceIte, reduceCtorEq, Nat.reduceBEq, Nat.reduceLT, decide_true]
        repeat' (first
            | (simp only [hno, intsR, ints_noOwn, onC_true, ↓wA, ↓wC, wB, frzBE, frzBS, Nat.reduceEqDiff, Nat.reduceAdd, Nat.reduceSub, reduceIte, reduceCtorEq, Nat.reduceBEq, Nat.reduceLT, decide_true])
            | (refine call_det (hI') rfl rfl ?_)
            | (refine callP_det (hI') rfl rfl ?_)
            | (refine call_det (hS') rfl rfl ?_)
            | (refine callP_det (hS') rfl rfl ?_)
            | (refine call_det (hA') rfl rfl ?_)
            | (refine callP_det (hA') rfl rfl ?_)
            | (refine call_det hN2 rfl (by simp [intsR, D.allOwn, dl_allOwn iD_allOwn]) ?_)
            | (refine call_det (hJ) rfl rfl ?_)
            | (refine callP_det (hJ) rfl rfl ?_)
            | (refine execG_split (fun h => ?_) (fun h => ?_) <;> simp only [h])
            | (refine execC_split (fun h => ?_) (fun h => ?_) <;> (try simp only [h]))
            | (refine onPick_split (fun h => ?_) (fun h => ?_) <;> (try simp only [h])))
        refine exec_gh1 (weak_of (s' := ⟨[(0, .d (.sl false 1 (bytesD code)))], []⟩) _ rfl ⟨⟨rfl, rfl⟩, trivial⟩) ?_
        exact rest.out
    clear hxs hxl hxo hno hal
    simp only [↓wA, ↓wC, wB, frzBE, frzBS, Nat.reduceEqDiff, Nat.reduceAdd, Nat.reduceSub, reduceIte, reduceCtorEq, Nat.reduceBEq, Nat.reduceLT, decide_true]
    refine call_rel (drawDecide_fn code hc) rfl fun rs h => ?_
    obtain ⟨u, x, won, rfl, hxs⟩ := h
    obtain ⟨hxl, hxo⟩ := drawn_ok hxs
    have hno := apps_noOwn u
    refine ⟨.inl rfl, ?_⟩
    apply cutT
    case m =>
      intro rest
      have hI := decideAppeal_fn u x won hxl hxo
      have hS := specDecide_fn u x won hxl hxo
      cases hR : decR u x won with
      | none =>
        rw [hR] at hI hS
        have hA' : Fn prog 38 [.sl false 6 .nil, .sl false 6 .nil] (fun rs => rs = [.bool true]) := rAppeals_refl [] (by simp) (by simp)
        repeat' (first
            | (simp only [hno, listR, onC_true, ↓wA, ↓wC, wB, frzBE, frzBS, Nat.reduceEqDiff, Nat.reduceAdd, Nat.reduceSub, reduceIte, reduceCtorEq, Nat.reduceBEq, Nat.reduceLT, decide_true])
            | (refine call_det (hI) rfl rfl ?_)
            | (refine callP_det (hI) rfl rfl ?_)
            | (refine call_det (hS) rfl rfl ?_)
            | (refine callP_det (hS) rfl rfl ?_)
            | (refine call_det (hA') rfl rfl ?_)
            | (refine callP_det (hA') rfl rfl ?_)
            | (refine execG_split (fun h => ?_) (fun h => ?_) <;> simp only [h])
            | (refine execC_split (fun h => ?_) (fun h => ?_) <;> (try simp only [h]))
            | (refine onPick_split (fun h => ?_) (fun h => ?_) <;> (try simp only [h])))
        refine exec_gh1 (weak_of (s' := ⟨[(0, .d (.sl false 1 (bytesD code)))], []⟩) _ rfl ⟨⟨rfl, rfl⟩, trivial⟩) ?_
        exact rest.out
      | some ys =>
        rw [hR] at hI hS
        obtain ⟨hyl, hyo⟩ := decR_bd' u x won hxl hxo ys hR
        obtain ⟨m, n, hw, hn1⟩ := dec_law hR
        have hA' : Fn prog 38 [.sl false 6 (dl App.o ys).unown, .sl false 6 (dl App.d' ys).unown] (fun rs => rs = [.bool true]) := by rw [dlo_unown, show (dl App.d' ys).unown = appsD ys from apps_unown ys]; exact rAppeals_refl ys hyl hyo
        have hW : Fn prog 45 [.sl false 6 (dl App.o ys).unown] (fun rs => rs = [.int .i64 m, .int .i64 n, .bool true]) := by rw [dlo_unown, ← hw]; exact won_fn ys hyl hyo
        have hn : decide (n < 1) = false := decide_eq_false (by omega)
        repeat' (first
            | (simp only [hno, listR, hn, onC_true, ↓wA, ↓wC, wB, frzBE, frzBS, Nat.reduceEqDiff, Nat.reduceAdd, Nat.reduceSub, reduceIte, reduceCtorEq, Nat.reduceBEq, Nat.reduceLT, decide_true])
            | (refine call_det (hI) rfl rfl ?_)
            | (refine callP_det (hI) rfl rfl ?_)
            | (refine call_det (hS) rfl rfl ?_)
            | (refine callP_det (hS) rfl rfl ?_)
            | (refine call_det (hA') rfl rfl ?_)
            | (refine callP_det (hA') rfl rfl ?_)
            | (refine call_det (hW) rfl rfl ?_)
            | (refine callP_det (hW) rfl rfl ?_)
            | (refine execG_split (fun h => ?_) (fun h => ?_) <;> simp only [h])
            | (refine execC_split (fun h => ?_) (fun h => ?_) <;> (try simp only [h]))
            | (refine onPick_split (fun h => ?_) (fun h => ?_) <;> (try simp only [h])))
        refine exec_gh1 (weak_of (s' := ⟨[(0, .d (.sl false 1 (bytesD code)))], []⟩) _ rfl ⟨⟨rfl, rfl⟩, trivial⟩) ?_
        exact rest.out
    clear hxs hxl hxo hno
    simp only [↓wA, ↓wC, wB, frzBE, frzBS, Nat.reduceEqDiff, Nat.reduceAdd, Nat.reduceSub, reduceIte, reduceCtorEq, Nat.reduceBEq, Nat.reduceLT, decide_true]
    refine call_rel (drawNot_fn code hc) rfl fun rs h => ?_
    obtain ⟨v, y, rfl, hxs⟩ := h
    obtain ⟨hxl, hxo⟩ := drawn_ok hxs
    have hno := apps_noOwn v
    refine ⟨.inl rfl, ?_⟩
    have hI := notHeard_fn v y hxl hxo
    have hS := specNotHeard_fn v y hxl hxo
    cases hR : nhR v y with
    | none =>
      rw [hR] at hI hS
      have hJ : Fn prog 27 [.sl false 1 (dl iD []).unown, .sl false 1 (dl iD []).unown] (fun rs => rs = [.bool true]) := by rw [ints_unown]; exact rInts_refl [] (by simp)
      repeat' (first
          | (simp only [hno, intsR, onC_true, ↓wA, ↓wC, wB, frzBE, frzBS, Nat.reduceEqDiff, Nat.reduceAdd, Nat.reduceSub, reduceIte, reduceCtorEq, Nat.reduceBEq, Nat.reduceLT, decide_true])
          | (refine call_det (hI) rfl rfl ?_)
          | (refine callP_det (hI) rfl rfl ?_)
          | (refine call_det (hS) rfl rfl ?_)
          | (refine callP_det (hS) rfl rfl ?_)
          | (refine execG_split (fun h => ?_) (fun h => ?_) <;> simp only [h])
          | (refine execC_split (fun h => ?_) (fun h => ?_) <;> (try simp only [h]))
          | (refine onPick_split (fun h => ?_) (fun h => ?_) <;> (try simp only [h])))
      refine call_rel (drawIs_fn code hc) rfl fun rs h => ?_
      obtain ⟨z, rfl, hz⟩ := h
      refine ⟨.inl rfl, ?_⟩
      have hP := isAppeal_fn z (App.few_ok hz)
      have hQ := specIsAppeal_fn z (App.few_ok hz)
      repeat' (first
          | (simp only [d_noOwn, ↓rd_app, oa_size, oa_isV, App.noOwn, onC_true, ↓wA, ↓wC, wB, frzBE, frzBS, Nat.reduceEqDiff, Nat.reduceAdd, Nat.reduceSub, reduceIte, reduceCtorEq, Nat.reduceBEq, Nat.reduceLT, decide_true])
          | (refine call_det (hJ) rfl rfl ?_)
          | (refine callP_det (hJ) rfl rfl ?_)
          | (refine call_det (hP) rfl rfl ?_)
          | (refine callP_det (hP) rfl rfl ?_)
          | (refine call_det (hQ) rfl rfl ?_)
          | (refine callP_det (hQ) rfl rfl ?_)
          | (refine execG_split (fun h => ?_) (fun h => ?_) <;> simp only [h])
          | (refine execC_split (fun h => ?_) (fun h => ?_) <;> (try simp only [h]))
          | (refine onPick_split (fun h => ?_) (fun h => ?_) <;> (try simp only [h])))
      all_goals simp
    | some w =>
      rw [hR] at hI hS
      have hwl := nhR_bd hxo hR
      have hJ : Fn prog 27 [.sl false 1 (dl iD w).unown, .sl false 1 (dl iD w).unown] (fun rs => rs = [.bool true]) := by rw [ints_unown]; exact rInts_refl w hwl
      repeat' (first
          | (simp only [hno, intsR, onC_true, ↓wA, ↓wC, wB, frzBE, frzBS, Nat.reduceEqDiff, Nat.reduceAdd, Nat.reduceSub, reduceIte, reduceCtorEq, Nat.reduceBEq, Nat.reduceLT, decide_true])
          | (refine call_det (hI) rfl rfl ?_)
          | (refine callP_det (hI) rfl rfl ?_)
          | (refine call_det (hS) rfl rfl ?_)
          | (refine callP_det (hS) rfl rfl ?_)
          | (refine execG_split (fun h => ?_) (fun h => ?_) <;> simp only [h])
          | (refine execC_split (fun h => ?_) (fun h => ?_) <;> (try simp only [h]))
          | (refine onPick_split (fun h => ?_) (fun h => ?_) <;> (try simp only [h])))
      refine call_rel (drawIs_fn code hc) rfl fun rs h => ?_
      obtain ⟨z, rfl, hz⟩ := h
      refine ⟨.inl rfl, ?_⟩
      have hP := isAppeal_fn z (App.few_ok hz)
      have hQ := specIsAppeal_fn z (App.few_ok hz)
      repeat' (first
          | (simp only [d_noOwn, ↓rd_app, oa_size, oa_isV, App.noOwn, onC_true, ↓wA, ↓wC, wB, frzBE, frzBS, Nat.reduceEqDiff, Nat.reduceAdd, Nat.reduceSub, reduceIte, reduceCtorEq, Nat.reduceBEq, Nat.reduceLT, decide_true])
          | (refine call_det (hJ) rfl rfl ?_)
          | (refine callP_det (hJ) rfl rfl ?_)
          | (refine call_det (hP) rfl rfl ?_)
          | (refine callP_det (hP) rfl rfl ?_)
          | (refine call_det (hQ) rfl rfl ?_)
          | (refine callP_det (hQ) rfl rfl ?_)
          | (refine execG_split (fun h => ?_) (fun h => ?_) <;> simp only [h])
          | (refine execC_split (fun h => ?_) (fun h => ?_) <;> (try simp only [h]))
          | (refine onPick_split (fun h => ?_) (fun h => ?_) <;> (try simp only [h])))
      all_goals simp
end Go.Pe.Try
