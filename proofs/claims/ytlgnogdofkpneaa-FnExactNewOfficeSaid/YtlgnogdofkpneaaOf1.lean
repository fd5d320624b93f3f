/- The law of NewOffice, walked. -/
import Derived.Test.YtlgnogdofkpneaaPeC
import Derived.Test.YtlgnogdofkpneaaMc1
set_option maxRecDepth 100000
set_option maxHeartbeats 4000000
set_option linter.all false
namespace Go.Pe.Try
open Go.Proofs.Try
def within (n a b : Int) : Bool := decide (a ≤ n) && decide (n ≤ b)
theorem within_fn (n a b : Int) : Fn prog 18 [.int .i64 n, .int .i64 a, .int .i64 b] (fun rs => rs = [.bool (within n a b)]) := by
  refine Fn_of' (fn := f18) (by exact func18) c18 r18 (n := 15) (by rfl) (rv := [.tmp 6]) (by rfl) (by simp) ?_
  unfold m18
  simp only [↓wA, ↓wC, wB, Nat.reduceEqDiff, Nat.reduceAdd, Nat.reduceSub, reduceIte, reduceCtorEq, Nat.reduceBEq, Nat.reduceLT, decide_true, sz25]
  refine execG_split (fun h => ?_) (fun h => ?_) <;> simp only [h, ↓wA, ↓wC, wB, Nat.reduceEqDiff, Nat.reduceAdd, Nat.reduceSub, reduceIte, reduceCtorEq, Nat.reduceBEq, Nat.reduceLT, decide_true, sz25]
  all_goals simp [within, h]
theorem l1In_fn (n a b : Int) : Fn prog 17 [.int .i64 n, .int .i64 a, .int .i64 b] (fun rs => rs = [.bool (within n a b)]) := by
  refine Fn_of' (fn := f17) (by exact func17) c17 r17 (n := 15) (by rfl) (rv := [.tmp 6]) (by rfl) (by simp) ?_
  unfold m17
  simp only [↓wA, ↓wC, wB, Nat.reduceEqDiff, Nat.reduceAdd, Nat.reduceSub, reduceIte, reduceCtorEq, Nat.reduceBEq, Nat.reduceLT, decide_true, sz25]
  refine execG_split (fun h => ?_) (fun h => ?_) <;> simp only [h, ↓wA, ↓wC, wB, Nat.reduceEqDiff, Nat.reduceAdd, Nat.reduceSub, reduceIte, reduceCtorEq, Nat.reduceBEq, Nat.reduceLT, decide_true, sz25]
  all_goals simp [within, h]
theorem isDay_fn (n : Int) : Fn prog 10 [.int .i64 n] (fun rs => rs = [.bool (within n 0 20000)]) := by
  refine Fn_of' (fn := f10) (by exact func10) c10 r10 (n := 5) (by rfl) (rv := [.tmp 2]) (by rfl) (by simp) ?_
  unfold m10
  repeat' (first
      | (simp only [↓wA, ↓wC, wB, Nat.reduceEqDiff, Nat.reduceAdd, Nat.reduceSub, reduceIte, reduceCtorEq, Nat.reduceBEq, Nat.reduceLT, decide_true, sz25])
      | (refine call_det (within_fn _ _ _) rfl rfl ?_)
      | (refine callP_det (within_fn _ _ _) rfl rfl ?_)
      | (refine execG_split (fun h => ?_) (fun h => ?_) <;> simp only [h])
      | (refine execC_split (fun h => ?_) (fun h => ?_) <;> (try simp only [h]))
      | (refine onPick_split (fun h => ?_) (fun h => ?_) <;> (try simp only [h])))
theorem l2Day_fn (n : Int) : Fn prog 9 [.int .i64 n] (fun rs => rs = [.bool (within n 0 20000)]) := by
  refine Fn_of' (fn := f9) (by exact func9) c9 r9 (n := 5) (by rfl) (rv := [.tmp 2]) (by rfl) (by simp) ?_
  unfold m9
  repeat' (first
      | (simp only [↓wA, ↓wC, wB, Nat.reduceEqDiff, Nat.reduceAdd, Nat.reduceSub, reduceIte, reduceCtorEq, Nat.reduceBEq, Nat.reduceLT, decide_true, sz25])
      | (refine call_det (l1In_fn _ _ _) rfl rfl ?_)
      | (refine callP_det (l1In_fn _ _ _) rfl rfl ?_)
      | (refine execG_split (fun h => ?_) (fun h => ?_) <;> simp only [h])
      | (refine execC_split (fun h => ?_) (fun h => ?_) <;> (try simp only [h]))
      | (refine onPick_split (fun h => ?_) (fun h => ?_) <;> (try simp only [h])))
/-- an office without cases. -/
def newD (b : Bool) (n : Int) : D := .st (.cons (.int .i64 n) (.cons (.sl b 4 .nil) (.cons (.int .i64 0) (.cons (.int .i64 0) (.cons (.sl b 1 .nil) .nil)))))
def newR (n : Int) : List D := if within n 0 20000 = true then [newD true n, .bool true] else [newD true 0, .bool false]
theorem newOffice_fn (n : Int) : Fn prog 5 [.int .i64 n] (fun rs => rs = newR n) := by
  refine Fn_of' (fn := f5) (by exact func5) c5 r5 (n := 10) (by rfl) (rv := [.cell 2 25, .tmp 3]) (by rfl) (by simp) ?_
  unfold m5
  try simp only [↓wA, ↓wC, wB, Nat.reduceEqDiff, Nat.reduceAdd, Nat.reduceSub, reduceIte, reduceCtorEq, Nat.reduceBEq, Nat.reduceLT, decide_true, sz25]
  refine call_det (isDay_fn n) rfl rfl ?_
  cases h : within n 0 20000 <;> simp only [↓wA, ↓wC, wB, Nat.reduceEqDiff, Nat.reduceAdd, Nat.reduceSub, reduceIte, reduceCtorEq, Nat.reduceBEq, Nat.reduceLT, decide_true, sz25] <;> simp [newR, newD, h]
theorem specNewOffice_fn (n : Int) : Fn prog 4 [.int .i64 n] (fun rs => rs = newR n) := by
  refine Fn_of' (fn := f4) (by exact func4) c4 r4 (n := 12) (by rfl) (rv := [.cell 2 25, .tmp 3]) (by rfl) (by simp) ?_
  unfold m4
  try simp only [↓wA, ↓wC, wB, Nat.reduceEqDiff, Nat.reduceAdd, Nat.reduceSub, reduceIte, reduceCtorEq, Nat.reduceBEq, Nat.reduceLT, decide_true, sz25]
  refine call_det (l2Day_fn n) rfl rfl ?_
  cases h : within n 0 20000 <;> simp only [↓wA, ↓wC, wB, Nat.reduceEqDiff, Nat.reduceAdd, Nat.reduceSub, reduceIte, reduceCtorEq, Nat.reduceBEq, Nat.reduceLT, decide_true, sz25] <;> simp [newR, newD, h]
theorem h10 : decide ((1 : Int) < 0) = false := by decide
theorem h00 : decide ((0 : Int) < ((0 : Nat) : Int)) = false := by decide
theorem eqCaseS_nil : Fn prog 11 [.sl false 4 .nil, .sl false 4 .nil] (fun rs => rs = [.bool true]) := by
  refine Fn_of' (fn := f11) (by exact func11) c11 r11 (n := 27) (by rfl) (rv := [.tmp 4]) (by rfl) (by simp) ?_
  unfold m11
  try simp only [↓wA, ↓wC, wB, Nat.reduceEqDiff, Nat.reduceAdd, Nat.reduceSub, reduceIte, reduceCtorEq, Nat.reduceBEq, Nat.reduceLT, decide_true, sz25]
  refine exec_loop (fun _ : Unit => ⟨[(0, .d (.sl false 4 .nil)), (1, .d (.sl false 4 .nil)), (5, .d (.int .i64 0))], []⟩) (fun _ => True) (fun _ => 0) () (weak_of [] rfl ⟨⟨rfl, rfl⟩, ⟨rfl, rfl⟩, ⟨rfl, rfl⟩, trivial⟩) trivial ?_
  rintro ⟨⟩ _
  simp only [h00, ↓wA, ↓wC, wB, Nat.reduceEqDiff, Nat.reduceAdd, Nat.reduceSub, reduceIte, reduceCtorEq, Nat.reduceBEq, Nat.reduceLT, decide_true, sz25]
theorem eqStringS_nil : Fn prog 12 [.sl false 1 .nil, .sl false 1 .nil] (fun rs => rs = [.bool true]) := by
  refine Fn_of' (fn := f12) (by exact func12) c12 r12 (n := 26) (by rfl) (rv := [.tmp 4]) (by rfl) (by simp) ?_
  unfold m12
  try simp only [↓wA, ↓wC, wB, Nat.reduceEqDiff, Nat.reduceAdd, Nat.reduceSub, reduceIte, reduceCtorEq, Nat.reduceBEq, Nat.reduceLT, decide_true, sz25]
  refine exec_loop (fun _ : Unit => ⟨[(0, .d (.sl false 1 .nil)), (1, .d (.sl false 1 .nil)), (5, .d (.int .i64 0))], []⟩) (fun _ => True) (fun _ => 0) () (weak_of [] rfl ⟨⟨rfl, rfl⟩, ⟨rfl, rfl⟩, ⟨rfl, rfl⟩, trivial⟩) trivial ?_
  rintro ⟨⟩ _
  simp only [h00, ↓wA, ↓wC, wB, Nat.reduceEqDiff, Nat.reduceAdd, Nat.reduceSub, reduceIte, reduceCtorEq, Nat.reduceBEq, Nat.reduceLT, decide_true, sz25]
theorem markCaseS_nil (k : Int) : Fn prog 13 [.sl false 4 .nil, .int .i64 k] (fun rs => rs = [.int .i64 k]) := by
  refine Fn_of' (fn := f13) (by exact func13) c13 r13 (n := 41) (by rfl) (rv := [.tmp 4]) (by rfl) (by simp) ?_
  unfold m13
  try simp only [↓wA, ↓wC, wB, Nat.reduceEqDiff, Nat.reduceAdd, Nat.reduceSub, reduceIte, reduceCtorEq, Nat.reduceBEq, Nat.reduceLT, decide_true, sz25]
  refine exec_loop (fun _ : Unit => ⟨[(0, .d (.sl false 4 .nil)), (1, .d (.int .i64 k)), (5, .d (.int .i64 0))], []⟩) (fun _ => True) (fun _ => 0) () (weak_of [] rfl ⟨⟨rfl, rfl⟩, ⟨rfl, rfl⟩, ⟨rfl, rfl⟩, trivial⟩) trivial ?_
  rintro ⟨⟩ _
  simp only [h00, ↓wA, ↓wC, wB, Nat.reduceEqDiff, Nat.reduceAdd, Nat.reduceSub, reduceIte, reduceCtorEq, Nat.reduceBEq, Nat.reduceLT, decide_true, sz25]
theorem markStringS_nil (k : Int) : Fn prog 14 [.sl false 1 .nil, .int .i64 k] (fun rs => rs = [.int .i64 k]) := by
  refine Fn_of' (fn := f14) (by exact func14) c14 r14 (n := 20) (by rfl) (rv := [.tmp 4]) (by rfl) (by simp) ?_
  unfold m14
  try simp only [↓wA, ↓wC, wB, Nat.reduceEqDiff, Nat.reduceAdd, Nat.reduceSub, reduceIte, reduceCtorEq, Nat.reduceBEq, Nat.reduceLT, decide_true, sz25]
  refine exec_loop (fun _ : Unit => ⟨[(0, .d (.sl false 1 .nil)), (1, .d (.int .i64 k)), (5, .d (.int .i64 0))], []⟩) (fun _ => True) (fun _ => 0) () (weak_of [] rfl ⟨⟨rfl, rfl⟩, ⟨rfl, rfl⟩, ⟨rfl, rfl⟩, trivial⟩) trivial ?_
  rintro ⟨⟩ _
  simp only [h00, ↓wA, ↓wC, wB, Nat.reduceEqDiff, Nat.reduceAdd, Nat.reduceSub, reduceIte, reduceCtorEq, Nat.reduceBEq, Nat.reduceLT, decide_true, sz25]
theorem heldCaseS_nil (k : Int) : Fn prog 15 [.sl false 4 .nil, .int .i64 k] (fun rs => rs = [.int .i64 k]) := by
  refine Fn_of' (fn := f15) (by exact func15) c15 r15 (n := 49) (by rfl) (rv := [.tmp 4]) (by rfl) (by simp) ?_
  unfold m15
  try simp only [↓wA, ↓wC, wB, Nat.reduceEqDiff, Nat.reduceAdd, Nat.reduceSub, reduceIte, reduceCtorEq, Nat.reduceBEq, Nat.reduceLT, decide_true, sz25]
  refine exec_loop (fun _ : Unit => ⟨[(0, .d (.sl false 4 .nil)), (1, .d (.int .i64 k)), (5, .d (.int .i64 0))], []⟩) (fun _ => True) (fun _ => 0) () (weak_of [] rfl ⟨⟨rfl, rfl⟩, ⟨rfl, rfl⟩, ⟨rfl, rfl⟩, trivial⟩) trivial ?_
  rintro ⟨⟩ _
  simp only [h00, ↓wA, ↓wC, wB, Nat.reduceEqDiff, Nat.reduceAdd, Nat.reduceSub, reduceIte, reduceCtorEq, Nat.reduceBEq, Nat.reduceLT, decide_true, sz25]
theorem heldStringS_nil (k : Int) : Fn prog 16 [.sl false 1 .nil, .int .i64 k] (fun rs => rs = [.int .i64 k]) := by
  refine Fn_of' (fn := f16) (by exact func16) c16 r16 (n := 22) (by rfl) (rv := [.tmp 4]) (by rfl) (by simp) ?_
  unfold m16
  try simp only [↓wA, ↓wC, wB, Nat.reduceEqDiff, Nat.reduceAdd, Nat.reduceSub, reduceIte, reduceCtorEq, Nat.reduceBEq, Nat.reduceLT, decide_true, sz25]
  refine exec_loop (fun _ : Unit => ⟨[(0, .d (.sl false 1 .nil)), (1, .d (.int .i64 k)), (5, .d (.int .i64 0))], []⟩) (fun _ => True) (fun _ => 0) () (weak_of [] rfl ⟨⟨rfl, rfl⟩, ⟨rfl, rfl⟩, ⟨rfl, rfl⟩, trivial⟩) trivial ?_
  rintro ⟨⟩ _
  simp only [h00, ↓wA, ↓wC, wB, Nat.reduceEqDiff, Nat.reduceAdd, Nat.reduceSub, reduceIte, reduceCtorEq, Nat.reduceBEq, Nat.reduceLT, decide_true, sz25]
theorem eqOffice_new (n : Int) : Fn prog 6 [newD false n, newD false n] (fun rs => rs = [.bool true]) := by
  refine Fn_of' (fn := f6) (by exact func6) c6 r6 (n := 32) (by rfl) (rv := [.tmp 4]) (by rfl) (by simp) ?_
  unfold m6
  simp only [newD]
  repeat' (first
      | (simp only [↓wA, ↓wC, wB, Nat.reduceEqDiff, Nat.reduceAdd, Nat.reduceSub, reduceIte, reduceCtorEq, Nat.reduceBEq, Nat.reduceLT, decide_true, sz25])
      | (refine call_det eqCaseS_nil rfl rfl ?_)
      | (refine call_det eqStringS_nil rfl rfl ?_)
      | (refine execG_split (fun h => ?_) (fun h => ?_) <;> simp only [h])
      | (refine execC_split (fun h => ?_) (fun h => ?_) <;> (try simp only [h]))
      | (refine onPick_split (fun h => ?_) (fun h => ?_) <;> (try simp only [h])))
  all_goals simp_all
theorem markOffice_new (n : Int) : Fn prog 7 [newD false n, .int .i64 1] (fun rs => rs = [.int .i64 1]) := by
  refine Fn_of' (fn := f7) (by exact func7) c7 r7 (n := 14) (by rfl) (rv := [.tmp 4]) (by rfl) (by simp) ?_
  unfold m7
  simp only [newD]
  repeat' (first
      | (simp only [↓wA, ↓wC, wB, Nat.reduceEqDiff, Nat.reduceAdd, Nat.reduceSub, reduceIte, reduceCtorEq, Nat.reduceBEq, Nat.reduceLT, decide_true, sz25])
      | (refine call_det (markCaseS_nil 1) rfl rfl ?_)
      | (refine call_det (markStringS_nil 1) rfl rfl ?_)
      | (refine execG_split (fun h => ?_) (fun h => ?_) <;> simp only [h])
      | (refine execC_split (fun h => ?_) (fun h => ?_) <;> (try simp only [h]))
      | (refine onPick_split (fun h => ?_) (fun h => ?_) <;> (try simp only [h])))
theorem heldOffice_new (n : Int) : Fn prog 8 [newD false n, .int .i64 1] (fun rs => rs = [.int .i64 1]) := by
  refine Fn_of' (fn := f8) (by exact func8) c8 r8 (n := 18) (by rfl) (rv := [.tmp 4]) (by rfl) (by simp) ?_
  unfold m8
  simp only [newD]
  repeat' (first
      | (simp only [h10, ↓wA, ↓wC, wB, Nat.reduceEqDiff, Nat.reduceAdd, Nat.reduceSub, reduceIte, reduceCtorEq, Nat.reduceBEq, Nat.reduceLT, decide_true, sz25])
      | (refine call_det (heldCaseS_nil 1) rfl rfl ?_)
      | (refine call_det (heldStringS_nil 1) rfl rfl ?_)
      | (refine execG_split (fun h => ?_) (fun h => ?_) <;> simp only [h])
      | (refine execC_split (fun h => ?_) (fun h => ?_) <;> (try simp only [h]))
      | (refine onPick_split (fun h => ?_) (fun h => ?_) <;> (try simp only [h])))
theorem RepVs.unown {w : World} {M M' : Nat → Prop} : ∀ (ds : List D) (vs : List Value) (fp : List Nat), (∀ b, M' b → M b) → (∀ b ∈ fp, ¬ M' b) → RepVs w M ds vs fp → RepVs w M' (ds.map D.unown) vs []
  | [], vs, fp, h1, h2, h => ⟨h.1, rfl⟩
  | d :: ds, vs, fp, h1, h2, h => by
    obtain ⟨cs, us, f1, f2, rfl, rfl, h3, h4⟩ := h
    exact ⟨cs, us, [], [], by rw [pack_unown], rfl, rep_unown d cs f1 h1 (fun b hb => h2 b (List.mem_append_left _ hb)) h3, RepVs.unown ds us f2 h1 (fun b hb => h2 b (List.mem_append_right _ hb)) h4⟩
theorem Fn_unown {P : PG} {f : FuncId} {ds rs : List D} (h : Fn P f ds (fun qs => qs = rs)) : Fn P f ds (fun qs => qs = rs.map D.unown) := by
  intro M vs w hM hG hv
  refine Calls.mono (h M vs w hM hG hv) ?_
  rintro e w' ⟨rs', us, fp, he, rfl, hr, hn, hb, hx⟩
  exact ⟨_, us, [], he, rfl, RepVs.unown _ _ _ (fun b h => .inl (h.resolve_right (by simp))) (fun b hb' h => by
    rcases h with h | h
    · have := hM b h; have := hb b hb'; omega
    · simp at h) hr, by simp, by simp, hx⟩
theorem lawNew_of (n m : Int) (b : Bool) (hS : Fn prog 4 [.int .i64 n] (fun rs => rs = [newD false m, .bool b])) (hI : Fn prog 5 [.int .i64 n] (fun rs => rs = [newD false m, .bool b])) : Fn prog 3 [.int .i64 n] (fun rs => rs = [.bool true]) := by
  have hE := eqOffice_new m
  have hM := markOffice_new m
  have hH := heldOffice_new m
  simp only [newD] at hS hI hE hM hH
  refine Fn_of' (fn := f3) (by exact func3) c3 r3 (n := 63) (by rfl) (rv := [.tmp 2]) (by rfl) (by simp) ?_
  unfold m3
  try simp only [↓wA, ↓wC, wB, Nat.reduceEqDiff, Nat.reduceAdd, Nat.reduceSub, reduceIte, reduceCtorEq, Nat.reduceBEq, Nat.reduceLT, decide_true, sz25]
  refine call_det hS rfl rfl ?_
  try simp only [↓wA, ↓wC, wB, Nat.reduceEqDiff, Nat.reduceAdd, Nat.reduceSub, reduceIte, reduceCtorEq, Nat.reduceBEq, Nat.reduceLT, decide_true, sz25]
  refine call_det hI rfl rfl ?_
  repeat' (first
      | (simp only [h10, ↓wA, ↓wC, wB, Nat.reduceEqDiff, Nat.reduceAdd, Nat.reduceSub, reduceIte, reduceCtorEq, Nat.reduceBEq, Nat.reduceLT, decide_true, sz25])
      | (refine call_det hI rfl rfl ?_)
      | (refine call_det hE rfl rfl ?_)
      | (refine call_det hM rfl rfl ?_)
      | (refine call_det hH rfl rfl ?_)
      | (refine execG_split (fun h => ?_) (fun h => ?_) <;> simp only [h])
      | (refine execC_split (fun h => ?_) (fun h => ?_) <;> (try simp only [h]))
      | (refine onPick_split (fun h => ?_) (fun h => ?_) <;> (try simp only [h])))
  all_goals simp_all
theorem lawNew_fn (n : Int) : Fn prog 3 [.int .i64 n] (fun rs => rs = [.bool true]) := by
  have hS := specNewOffice_fn n
  have hI := newOffice_fn n
  unfold newR at hS hI
  split at hS <;> rename_i h <;> simp only [h, if_true, if_false] at hI
  · exact lawNew_of n _ _ (Fn_unown hS) (Fn_unown hI)
  · exact lawNew_of n _ _ (Fn_unown hS) (Fn_unown hI)
theorem lawNew (x0 : D) (h0 : Typed (.int .i64) x0) : Fn prog 3 [x0] (fun rs => rs = [.bool true]) := by
  obtain ⟨n, rfl, _⟩ := h0
  exact lawNew_fn n
end Go.Pe.Try
