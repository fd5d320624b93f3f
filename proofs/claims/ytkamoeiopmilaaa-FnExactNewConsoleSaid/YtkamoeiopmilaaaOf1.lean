/- A new office, and what the laws do with its parts, walked. -/
import Derived.Test.YtkamoeiopmilaaaPeC
import Derived.Test.YtkamoeiopmilaaaMc1
set_option maxRecDepth 100000
set_option maxHeartbeats 4000000
set_option linter.all false
namespace Go.Pe.Try
open Go.Proofs.Try
def within (n a b : Int) : Bool := decide (a ≤ n) && decide (n ≤ b)
theorem within_fn (n a b : Int) : Fn prog 64 [.int .i64 n, .int .i64 a, .int .i64 b] (fun rs => rs = [.bool (within n a b)]) := by
  refine Fn_of' (fn := f64) (by exact func64) c64 r64 (n := 15) (by rfl) (rv := [.tmp 6]) (by rfl) (by simp) ?_
  unfold m64
  simp only [↓wA, ↓wC, wB, Nat.reduceEqDiff, Nat.reduceAdd, Nat.reduceSub, reduceIte, reduceCtorEq, Nat.reduceBEq, Nat.reduceLT, decide_true, sz25]
  refine execG_split (fun h => ?_) (fun h => ?_) <;> simp only [h, ↓wA, ↓wC, wB, Nat.reduceEqDiff, Nat.reduceAdd, Nat.reduceSub, reduceIte, reduceCtorEq, Nat.reduceBEq, Nat.reduceLT, decide_true, sz25]
  all_goals simp [within, h]
theorem l1In_fn (n a b : Int) : Fn prog 71 [.int .i64 n, .int .i64 a, .int .i64 b] (fun rs => rs = [.bool (within n a b)]) := by
  refine Fn_of' (fn := f71) (by exact func71) c71 r71 (n := 15) (by rfl) (rv := [.tmp 6]) (by rfl) (by simp) ?_
  unfold m71
  simp only [↓wA, ↓wC, wB, Nat.reduceEqDiff, Nat.reduceAdd, Nat.reduceSub, reduceIte, reduceCtorEq, Nat.reduceBEq, Nat.reduceLT, decide_true, sz25]
  refine execG_split (fun h => ?_) (fun h => ?_) <;> simp only [h, ↓wA, ↓wC, wB, Nat.reduceEqDiff, Nat.reduceAdd, Nat.reduceSub, reduceIte, reduceCtorEq, Nat.reduceBEq, Nat.reduceLT, decide_true, sz25]
  all_goals simp [within, h]
theorem isDay_fn (n : Int) : Fn prog 54 [.int .i64 n] (fun rs => rs = [.bool (within n 0 20000)]) := by
  refine Fn_of' (fn := f54) (by exact func54) c54 r54 (n := 5) (by rfl) (rv := [.tmp 2]) (by rfl) (by simp) ?_
  unfold m54
  repeat' (first
      | (simp only [↓wA, ↓wC, wB, Nat.reduceEqDiff, Nat.reduceAdd, Nat.reduceSub, reduceIte, reduceCtorEq, Nat.reduceBEq, Nat.reduceLT, decide_true, sz25])
      | (refine call_det (within_fn _ _ _) rfl rfl ?_)
      | (refine callP_det (within_fn _ _ _) rfl rfl ?_)
      | (refine execG_split (fun h => ?_) (fun h => ?_) <;> simp only [h])
      | (refine execC_split (fun h => ?_) (fun h => ?_) <;> (try simp only [h]))
      | (refine onPick_split (fun h => ?_) (fun h => ?_) <;> (try simp only [h])))
theorem l2Day_fn (n : Int) : Fn prog 43 [.int .i64 n] (fun rs => rs = [.bool (within n 0 20000)]) := by
  refine Fn_of' (fn := f43) (by exact func43) c43 r43 (n := 5) (by rfl) (rv := [.tmp 2]) (by rfl) (by simp) ?_
  unfold m43
  repeat' (first
      | (simp only [↓wA, ↓wC, wB, Nat.reduceEqDiff, Nat.reduceAdd, Nat.reduceSub, reduceIte, reduceCtorEq, Nat.reduceBEq, Nat.reduceLT, decide_true, sz25])
      | (refine call_det (l1In_fn _ _ _) rfl rfl ?_)
      | (refine callP_det (l1In_fn _ _ _) rfl rfl ?_)
      | (refine execG_split (fun h => ?_) (fun h => ?_) <;> simp only [h])
      | (refine execC_split (fun h => ?_) (fun h => ?_) <;> (try simp only [h]))
      | (refine onPick_split (fun h => ?_) (fun h => ?_) <;> (try simp only [h])))
/-- an office without cases. -/
def newD (b : Bool) (n : Int) : D := .st (.cons (.int .i64 n) (.cons (.sl b 4 .nil) (.cons (.int .i64 0) (.cons (.int .i64 0) (.cons (.sl b 1 .nil) .nil)))))
def newR (n : Int) : List D := if within n 0 20000 = true then [newD true n, .bool true] else [newD true 0, .bool false]
theorem newOffice_fn (n : Int) : Fn prog 29 [.int .i64 n] (fun rs => rs = newR n) := by
  refine Fn_of' (fn := f29) (by exact func29) c29 r29 (n := 10) (by rfl) (rv := [.cell 2 25, .tmp 3]) (by rfl) (by simp) ?_
  unfold m29
  try simp only [↓wA, ↓wC, wB, Nat.reduceEqDiff, Nat.reduceAdd, Nat.reduceSub, reduceIte, reduceCtorEq, Nat.reduceBEq, Nat.reduceLT, decide_true, sz25]
  refine call_det (isDay_fn n) rfl rfl ?_
  cases h : within n 0 20000 <;> simp only [↓wA, ↓wC, wB, Nat.reduceEqDiff, Nat.reduceAdd, Nat.reduceSub, reduceIte, reduceCtorEq, Nat.reduceBEq, Nat.reduceLT, decide_true, sz25] <;> simp [newR, newD, h]
theorem specNewOffice_fn (n : Int) : Fn prog 28 [.int .i64 n] (fun rs => rs = newR n) := by
  refine Fn_of' (fn := f28) (by exact func28) c28 r28 (n := 12) (by rfl) (rv := [.cell 2 25, .tmp 3]) (by rfl) (by simp) ?_
  unfold m28
  try simp only [↓wA, ↓wC, wB, Nat.reduceEqDiff, Nat.reduceAdd, Nat.reduceSub, reduceIte, reduceCtorEq, Nat.reduceBEq, Nat.reduceLT, decide_true, sz25]
  refine call_det (l2Day_fn n) rfl rfl ?_
  cases h : within n 0 20000 <;> simp only [↓wA, ↓wC, wB, Nat.reduceEqDiff, Nat.reduceAdd, Nat.reduceSub, reduceIte, reduceCtorEq, Nat.reduceBEq, Nat.reduceLT, decide_true, sz25] <;> simp [newR, newD, h]
theorem h10 : decide ((1 : Int) < 0) = false := by decide
theorem h00 : decide ((0 : Int) < ((0 : Nat) : Int)) = false := by decide
theorem eqCaseS_nil : Fn prog 55 [.sl false 4 .nil, .sl false 4 .nil] (fun rs => rs = [.bool true]) := by
  refine Fn_of' (fn := f55) (by exact func55) c55 r55 (n := 27) (by rfl) (rv := [.tmp 4]) (by rfl) (by simp) ?_
  unfold m55
  try simp only [↓wA, ↓wC, wB, Nat.reduceEqDiff, Nat.reduceAdd, Nat.reduceSub, reduceIte, reduceCtorEq, Nat.reduceBEq, Nat.reduceLT, decide_true, sz25]
  refine exec_loop (fun _ : Unit => ⟨[(0, .d (.sl false 4 .nil)), (1, .d (.sl false 4 .nil)), (5, .d (.int .i64 0))], []⟩) (fun _ => True) (fun _ => 0) () (weak_of [] rfl ⟨⟨rfl, rfl⟩, ⟨rfl, rfl⟩, ⟨rfl, rfl⟩, trivial⟩) trivial ?_
  rintro ⟨⟩ _
  simp only [h00, ↓wA, ↓wC, wB, Nat.reduceEqDiff, Nat.reduceAdd, Nat.reduceSub, reduceIte, reduceCtorEq, Nat.reduceBEq, Nat.reduceLT, decide_true, sz25]
theorem eqStringS_nil : Fn prog 56 [.sl false 1 .nil, .sl false 1 .nil] (fun rs => rs = [.bool true]) := by
  refine Fn_of' (fn := f56) (by exact func56) c56 r56 (n := 26) (by rfl) (rv := [.tmp 4]) (by rfl) (by simp) ?_
  unfold m56
  try simp only [↓wA, ↓wC, wB, Nat.reduceEqDiff, Nat.reduceAdd, Nat.reduceSub, reduceIte, reduceCtorEq, Nat.reduceBEq, Nat.reduceLT, decide_true, sz25]
  refine exec_loop (fun _ : Unit => ⟨[(0, .d (.sl false 1 .nil)), (1, .d (.sl false 1 .nil)), (5, .d (.int .i64 0))], []⟩) (fun _ => True) (fun _ => 0) () (weak_of [] rfl ⟨⟨rfl, rfl⟩, ⟨rfl, rfl⟩, ⟨rfl, rfl⟩, trivial⟩) trivial ?_
  rintro ⟨⟩ _
  simp only [h00, ↓wA, ↓wC, wB, Nat.reduceEqDiff, Nat.reduceAdd, Nat.reduceSub, reduceIte, reduceCtorEq, Nat.reduceBEq, Nat.reduceLT, decide_true, sz25]
theorem markCaseS_nil (k : Int) : Fn prog 57 [.sl false 4 .nil, .int .i64 k] (fun rs => rs = [.int .i64 k]) := by
  refine Fn_of' (fn := f57) (by exact func57) c57 r57 (n := 41) (by rfl) (rv := [.tmp 4]) (by rfl) (by simp) ?_
  unfold m57
  try simp only [↓wA, ↓wC, wB, Nat.reduceEqDiff, Nat.reduceAdd, Nat.reduceSub, reduceIte, reduceCtorEq, Nat.reduceBEq, Nat.reduceLT, decide_true, sz25]
  refine exec_loop (fun _ : Unit => ⟨[(0, .d (.sl false 4 .nil)), (1, .d (.int .i64 k)), (5, .d (.int .i64 0))], []⟩) (fun _ => True) (fun _ => 0) () (weak_of [] rfl ⟨⟨rfl, rfl⟩, ⟨rfl, rfl⟩, ⟨rfl, rfl⟩, trivial⟩) trivial ?_
  rintro ⟨⟩ _
  simp only [h00, ↓wA, ↓wC, wB, Nat.reduceEqDiff, Nat.reduceAdd, Nat.reduceSub, reduceIte, reduceCtorEq, Nat.reduceBEq, Nat.reduceLT, decide_true, sz25]
theorem markStringS_nil (k : Int) : Fn prog 58 [.sl false 1 .nil, .int .i64 k] (fun rs => rs = [.int .i64 k]) := by
  refine Fn_of' (fn := f58) (by exact func58) c58 r58 (n := 20) (by rfl) (rv := [.tmp 4]) (by rfl) (by simp) ?_
  unfold m58
  try simp only [↓wA, ↓wC, wB, Nat.reduceEqDiff, Nat.reduceAdd, Nat.reduceSub, reduceIte, reduceCtorEq, Nat.reduceBEq, Nat.reduceLT, decide_true, sz25]
  refine exec_loop (fun _ : Unit => ⟨[(0, .d (.sl false 1 .nil)), (1, .d (.int .i64 k)), (5, .d (.int .i64 0))], []⟩) (fun _ => True) (fun _ => 0) () (weak_of [] rfl ⟨⟨rfl, rfl⟩, ⟨rfl, rfl⟩, ⟨rfl, rfl⟩, trivial⟩) trivial ?_
  rintro ⟨⟩ _
  simp only [h00, ↓wA, ↓wC, wB, Nat.reduceEqDiff, Nat.reduceAdd, Nat.reduceSub, reduceIte, reduceCtorEq, Nat.reduceBEq, Nat.reduceLT, decide_true, sz25]
theorem heldCaseS_nil (k : Int) : Fn prog 59 [.sl false 4 .nil, .int .i64 k] (fun rs => rs = [.int .i64 k]) := by
  refine Fn_of' (fn := f59) (by exact func59) c59 r59 (n := 49) (by rfl) (rv := [.tmp 4]) (by rfl) (by simp) ?_
  unfold m59
  try simp only [↓wA, ↓wC, wB, Nat.reduceEqDiff, Nat.reduceAdd, Nat.reduceSub, reduceIte, reduceCtorEq, Nat.reduceBEq, Nat.reduceLT, decide_true, sz25]
  refine exec_loop (fun _ : Unit => ⟨[(0, .d (.sl false 4 .nil)), (1, .d (.int .i64 k)), (5, .d (.int .i64 0))], []⟩) (fun _ => True) (fun _ => 0) () (weak_of [] rfl ⟨⟨rfl, rfl⟩, ⟨rfl, rfl⟩, ⟨rfl, rfl⟩, trivial⟩) trivial ?_
  rintro ⟨⟩ _
  simp only [h00, ↓wA, ↓wC, wB, Nat.reduceEqDiff, Nat.reduceAdd, Nat.reduceSub, reduceIte, reduceCtorEq, Nat.reduceBEq, Nat.reduceLT, decide_true, sz25]
theorem heldStringS_nil (k : Int) : Fn prog 60 [.sl false 1 .nil, .int .i64 k] (fun rs => rs = [.int .i64 k]) := by
  refine Fn_of' (fn := f60) (by exact func60) c60 r60 (n := 22) (by rfl) (rv := [.tmp 4]) (by rfl) (by simp) ?_
  unfold m60
  try simp only [↓wA, ↓wC, wB, Nat.reduceEqDiff, Nat.reduceAdd, Nat.reduceSub, reduceIte, reduceCtorEq, Nat.reduceBEq, Nat.reduceLT, decide_true, sz25]
  refine exec_loop (fun _ : Unit => ⟨[(0, .d (.sl false 1 .nil)), (1, .d (.int .i64 k)), (5, .d (.int .i64 0))], []⟩) (fun _ => True) (fun _ => 0) () (weak_of [] rfl ⟨⟨rfl, rfl⟩, ⟨rfl, rfl⟩, ⟨rfl, rfl⟩, trivial⟩) trivial ?_
  rintro ⟨⟩ _
  simp only [h00, ↓wA, ↓wC, wB, Nat.reduceEqDiff, Nat.reduceAdd, Nat.reduceSub, reduceIte, reduceCtorEq, Nat.reduceBEq, Nat.reduceLT, decide_true, sz25]
theorem eqOffice_new (n : Int) : Fn prog 30 [newD false n, newD false n] (fun rs => rs = [.bool true]) := by
  refine Fn_of' (fn := f30) (by exact func30) c30 r30 (n := 32) (by rfl) (rv := [.tmp 4]) (by rfl) (by simp) ?_
  unfold m30
  simp only [newD]
  repeat' (first
      | (simp only [↓wA, ↓wC, wB, Nat.reduceEqDiff, Nat.reduceAdd, Nat.reduceSub, reduceIte, reduceCtorEq, Nat.reduceBEq, Nat.reduceLT, decide_true, sz25])
      | (refine call_det eqCaseS_nil rfl rfl ?_)
      | (refine call_det eqStringS_nil rfl rfl ?_)
      | (refine execG_split (fun h => ?_) (fun h => ?_) <;> simp only [h])
      | (refine execC_split (fun h => ?_) (fun h => ?_) <;> (try simp only [h]))
      | (refine onPick_split (fun h => ?_) (fun h => ?_) <;> (try simp only [h])))
  all_goals simp_all
theorem markOffice_new (n : Int) : Fn prog 32 [newD false n, .int .i64 1] (fun rs => rs = [.int .i64 1]) := by
  refine Fn_of' (fn := f32) (by exact func32) c32 r32 (n := 14) (by rfl) (rv := [.tmp 4]) (by rfl) (by simp) ?_
  unfold m32
  simp only [newD]
  repeat' (first
      | (simp only [↓wA, ↓wC, wB, Nat.reduceEqDiff, Nat.reduceAdd, Nat.reduceSub, reduceIte, reduceCtorEq, Nat.reduceBEq, Nat.reduceLT, decide_true, sz25])
      | (refine call_det (markCaseS_nil 1) rfl rfl ?_)
      | (refine call_det (markStringS_nil 1) rfl rfl ?_)
      | (refine execG_split (fun h => ?_) (fun h => ?_) <;> simp only [h])
      | (refine execC_split (fun h => ?_) (fun h => ?_) <;> (try simp only [h]))
      | (refine onPick_split (fun h => ?_) (fun h => ?_) <;> (try simp only [h])))
theorem heldOffice_new (n : Int) : Fn prog 33 [newD false n, .int .i64 1] (fun rs => rs = [.int .i64 1]) := by
  refine Fn_of' (fn := f33) (by exact func33) c33 r33 (n := 18) (by rfl) (rv := [.tmp 4]) (by rfl) (by simp) ?_
  unfold m33
  simp only [newD]
  repeat' (first
      | (simp only [h10, ↓wA, ↓wC, wB, Nat.reduceEqDiff, Nat.reduceAdd, Nat.reduceSub, reduceIte, reduceCtorEq, Nat.reduceBEq, Nat.reduceLT, decide_true, sz25])
      | (refine call_det (heldCaseS_nil 1) rfl rfl ?_)
      | (refine call_det (heldStringS_nil 1) rfl rfl ?_)
      | (refine execG_split (fun h => ?_) (fun h => ?_) <;> simp only [h])
      | (refine execC_split (fun h => ?_) (fun h => ?_) <;> (try simp only [h]))
      | (refine onPick_split (fun h => ?_) (fun h => ?_) <;> (try simp only [h])))
theorem RepVs.unown {w : World} {M M' : Nat → Prop} : ∀ (ds : List D) (vs : List Value) (fp : List Nat), (∀ b, M' b → M b) → (∀ b ∈ fp, ¬ M' b) → RepVs w M ds vs fp → RepVs w M' (ds.map D.unown) vs []
  | [], vs, fp, h1, h2, h => ⟨h.1, rfl⟩
  | d :: ds, vs, fp, h1, h2, h => by
    obtain ⟨cs, us, f1, f2, rfl, rfl, h3, h4⟩ := h
    exact ⟨cs, us, [], [], by rw [pack_unown], rfl, rep_unown d cs f1 h1 (fun b hb => h2 b (List.mem_append_left _ hb)) h3, RepVs.unown ds us f2 h1 (fun b hb => h2 b (List.mem_append_right _ hb)) h4⟩
theorem Fn_unown {P : PG} {f : FuncId} {ds rs : List D} (h : Fn P f ds (fun qs => qs = rs)) : Fn P f ds (fun qs => qs = rs.map D.unown) := by
  intro M vs w hM hG hv
  refine Calls.mono (h M vs w hM hG hv) ?_
  rintro e w' ⟨rs', us, fp, he, rfl, hr, hn, hb, hx⟩
  exact ⟨_, us, [], he, rfl, RepVs.unown _ _ _ (fun b h => .inl (h.resolve_right (by simp))) (fun b hb' h => by
    rcases h with h | h
    · have := hM b h; have := hb b hb'; omega
    · simp at h) hr, by simp, by simp, hx⟩
end Go.Pe.Try
