/- Appeals among the laws' helpers: sizes, copies, equality; walked. -/
import Derived.Test.YtbkjloohaahmdaaPeD
import Derived.Test.YtbkjloohaahmdaaMc1
import Derived.Test.YtbkjloohaahmdaaMc2
set_option maxRecDepth 100000
set_option maxHeartbeats 4000000
set_option linter.all false
namespace Go.Pe.Try
open Go.Proofs.Try
structure App where
  i : Int
  q : Int
  d : Int
  a : List Int
  h : List Int
  s : Int
def App.d' (x : App) : D := .st (.cons (.int .i64 x.i) (.cons (.int .i64 x.q) (.cons (.int .i64 x.d) (.cons (.sl false 1 (dl iD x.a)) (.cons (.sl false 1 (dl iD x.h)) (.cons (.int .i64 x.s) .nil))))))
def App.ok0 (x : App) : Prop := x.a.length ≤ 1048576 ∧ x.h.length ≤ 1048576
theorem ints_noOwn (v : List Int) : (dl iD v).noOwn = true := dl_noOwn iD_noOwn v
theorem ints_unown (v : List Int) : (dl iD v).unown = dl iD v := dl_unown iD_unown v
theorem szIntS_fn (v : List Int) (n : Int) (h0 : 0 ≤ n) (h1 : n ≤ 1048576) (hm : v.length ≤ maxLen) : Fn prog 117 [.sl false 1 (dl iD v), .int .i64 n] (fun rs => rs = [.int .i64 (if n - v.length < 0 then -1 else n - v.length)]) := by
  have hm' : maxLen = 9223372036854775807 := by rfl
  refine Fn_of' (fn := f117) (by exact func117) c117 r117 (n := 12) (by rfl) (rv := [.tmp 4]) (by rfl) (by simp) ?_
  unfold m117
  simp only [dl_len, ↓wA, ↓wC, wB, frzBE, frzBS, Nat.reduceEqDiff, Nat.reduceAdd, Nat.reduceSub, reduceIte, reduceCtorEq, Nat.reduceBEq, Nat.reduceLT, decide_true, sz66]
  refine onI_bare (by simp only [InR]; omega) ?_
  simp only [↓wA, ↓wC, wB, frzBE, frzBS, Nat.reduceEqDiff, Nat.reduceAdd, Nat.reduceSub, reduceIte, reduceCtorEq, Nat.reduceBEq, Nat.reduceLT, decide_true, sz66]
  refine execC_split (fun h => ?_) (fun h => ?_) <;> simp only [↓wA, ↓wC, wB, frzBE, frzBS, Nat.reduceEqDiff, Nat.reduceAdd, Nat.reduceSub, reduceIte, reduceCtorEq, Nat.reduceBEq, Nat.reduceLT, decide_true, sz66]
  · rw [if_pos (by simpa using h)]
  · rw [if_neg (by simpa using h)]
theorem eqIntS_refl (v : List Int) (hlen : v.length ≤ 1048576) : Fn prog 11 [.sl false 1 (dl iD v), .sl false 1 (dl iD v)] (fun rs => rs = [.bool true]) := by
  refine Fn_of' (fn := f11) (by exact func11) c11 r11 (n := 26) (by rfl) (rv := [.tmp 4]) (by rfl) (by simp) ?_
  unfold m11
  simp only [↓wA, ↓wC, wB, frzBE, frzBS, Nat.reduceEqDiff, Nat.reduceAdd, Nat.reduceSub, reduceIte, reduceCtorEq, Nat.reduceBEq, Nat.reduceLT, decide_true, sz66]
  refine exec_loop (fun i : Nat => ⟨[(0, .d (.sl false 1 (dl iD v))), (1, .d (.sl false 1 (dl iD v))), (5, .d (.int .i64 i))], []⟩)
    (fun i => i ≤ v.length) (fun i => v.length - i) 0 (weak_of [] rfl ⟨⟨rfl, rfl⟩, ⟨rfl, rfl⟩, ⟨rfl, rfl⟩, trivial⟩) (Nat.zero_le _) ?_
  intro i hi
  by_cases hlt : i < v.length
  · obtain ⟨r, hr⟩ := get_lt hlt
    have hd : decide ((i : Int) < (v.length : Int)) = true := decide_eq_true (by omega)
    have h0 : (0 : Int) ≤ (i : Int) := by omega
    repeat' (first
        | (simp only [dl_len, dl_nth, hd, Int.toNat_natCast, hr, Option.map_some, h0, onC_true, iD, ↓wA, ↓wC, wB, frzBE, frzBS, Nat.reduceEqDiff, Nat.reduceAdd, Nat.reduceSub, reduceIte, reduceCtorEq, Nat.reduceBEq, Nat.reduceLT, decide_true, sz66])
        | (refine execG_split (fun h => ?_) (fun h => ?_) <;> simp only [h])
        | (refine execC_split (fun h => ?_) (fun h => ?_) <;> (try simp only [h]))
        | (refine onPick_split (fun h => ?_) (fun h => ?_) <;> (try simp only [h])))
    refine onI_bare (by simp only [InR]; omega) ?_
    exact ⟨i + 1, weak_of [] rfl ⟨⟨rfl, rfl⟩, ⟨rfl, rfl⟩, ⟨rfl, rfl⟩, trivial⟩, by omega, by omega⟩
  · have hd : decide ((i : Int) < (v.length : Int)) = false := decide_eq_false (by omega)
    simp only [dl_len, hd, ↓wA, ↓wC, wB, frzBE, frzBS, Nat.reduceEqDiff, Nat.reduceAdd, Nat.reduceSub, reduceIte, reduceCtorEq, Nat.reduceBEq, Nat.reduceLT, decide_true, sz66]
theorem eqAppeal_refl (x : App) (hx : x.ok0) : Fn prog 71 [x.d', x.d'] (fun rs => rs = [.bool true]) := by
  have h1 := eqIntS_refl x.a hx.1
  have h2 := eqIntS_refl x.h hx.2
  refine Fn_of' (fn := f71) (by exact func71) c71 r71 (n := 37) (by rfl) (rv := [.tmp 4]) (by rfl) (by simp) ?_
  unfold m71
  simp only [App.d']
  repeat' (first
      | (simp only [ints_noOwn, onC_true, ↓wA, ↓wC, wB, frzBE, frzBS, Nat.reduceEqDiff, Nat.reduceAdd, Nat.reduceSub, reduceIte, reduceCtorEq, Nat.reduceBEq, Nat.reduceLT, decide_true, sz66])
      | (refine call_det h1 rfl rfl ?_)
      | (refine call_det h2 rfl rfl ?_)
      | (refine execG_split (fun h => ?_) (fun h => ?_) <;> simp only [h])
      | (refine execC_split (fun h => ?_) (fun h => ?_) <;> (try simp only [h]))
      | (refine onPick_split (fun h => ?_) (fun h => ?_) <;> (try simp only [h])))
theorem toIntS_own (v : List Int) (hlen : v.length ≤ 1048576) : Fn prog 118 [.sl false 1 (dl iD v)] (fun rs => rs = [.sl true 1 (dl iD v)]) := by
  refine Fn_of' (fn := f118) (by exact func118) c118 r118 (n := 22) (by rfl) (rv := [.tmp 2]) (by rfl) (by simp) ?_
  unfold m118
  simp only [↓wA, ↓wC, wB, frzBE, frzBS, Nat.reduceEqDiff, Nat.reduceAdd, Nat.reduceSub, reduceIte, reduceCtorEq, Nat.reduceBEq, Nat.reduceLT, decide_true, sz66]
  simp only [dl_len, ↓wA, ↓wC, wB, frzBE, frzBS, Nat.reduceEqDiff, Nat.reduceAdd, Nat.reduceSub, reduceIte, reduceCtorEq, Nat.reduceBEq, Nat.reduceLT, decide_true, sz66]
  refine onC_i (by omega) ?_
  have hz : ofL (List.replicate (↑v.length : Int).toNat (D.int .i64 0)) = dl iD (v.take 0 ++ List.replicate (v.length - 0) 0) := by
    rw [show D.int .i64 0 = iD 0 from rfl, dl_replicate]; simp
  rw [hz]
  refine exec_loop (fun i : Nat => ⟨[(0, .d (.sl false 1 (dl iD v))), (3, .own 0), (4, .d (.int .i64 i))], [.val (.sl true 1 (dl iD (v.take i ++ List.replicate (v.length - i) 0)))]⟩)
    (fun i => i ≤ v.length) (fun i => v.length - i) 0 (weak_of [] rfl ⟨⟨rfl, rfl⟩, ⟨rfl, rfl⟩, ⟨rfl, rfl⟩, trivial⟩) (Nat.zero_le _) ?_
  intro i hi
  by_cases hlt : i < v.length
  · obtain ⟨r, hr⟩ := get_lt hlt
    have hd : decide ((i : Int) < (v.length : Int)) = true := by simp; omega
    have h0 : (0 : Int) ≤ (i : Int) := by omega
    have hn : (v.take i ++ List.replicate (v.length - i) (0 : Int))[i]? = some 0 := by
      rw [List.getElem?_append_right (by simp; omega), List.length_take, Nat.min_eq_left (by omega), Nat.sub_self, show v.length - i = (v.length - (i + 1)) + 1 by omega]; rfl
    repeat' (first
        | (simp only [dl_len, dl_nth, hd, h0, Int.toNat_natCast, hr, hn, Option.map_some, onC_true, iD, ↓wA, ↓wC, wB, frzBE, frzBS, Nat.reduceEqDiff, Nat.reduceAdd, Nat.reduceSub, reduceIte, reduceCtorEq, Nat.reduceBEq, Nat.reduceLT, decide_true, sz66])
        | (refine onI_bare (by simp only [InR]; omega) ?_)
        | (refine execG_split (fun h => ?_) (fun h => ?_) <;> simp only [h])
        | (refine execC_split (fun h => ?_) (fun h => ?_) <;> (try simp only [h]))
        | (refine onPick_split (fun h => ?_) (fun h => ?_) <;> (try simp only [h])))
    have hfs : (dl iD (v.take i ++ List.replicate (v.length - i) (0 : Int))).setN i (D.int .i64 r) = dl iD (v.take (i + 1) ++ List.replicate (v.length - (i + 1)) 0) := by
      rw [show D.int .i64 r = iD r from rfl, dl_setN, fill_step hr]
    rw [hfs]
    exact ⟨i + 1, weak_of [] rfl ⟨⟨rfl, rfl⟩, ⟨rfl, rfl⟩, ⟨rfl, rfl⟩, trivial⟩, by omega, by omega⟩
  · have hd : decide ((i : Int) < (v.length : Int)) = false := by simp; omega
    have e : i = v.length := by omega
    simp only [dl_len, hd, ↓wA, ↓wC, wB, frzBE, frzBS, Nat.reduceEqDiff, Nat.reduceAdd, Nat.reduceSub, reduceIte, reduceCtorEq, Nat.reduceBEq, Nat.reduceLT, decide_true, sz66]
    simp [e]
theorem toIntS_fn (v : List Int) (hlen : v.length ≤ 1048576) : Fn prog 118 [.sl false 1 (dl iD v)] (fun rs => rs = [.sl false 1 (dl iD v)]) := by
  have h := Fn_unown (toIntS_own v hlen)
  simpa [D.unown, ints_unown] using h
theorem App.noOwn (x : App) : x.d'.noOwn = true := by simp [App.d', D.noOwn, ints_noOwn]
theorem App.unown (x : App) : x.d'.unown = x.d' := by simp [App.d', D.unown, ints_unown]
theorem toAppeal_fn (x : App) (hx : x.ok0) : Fn prog 65 [x.d'] (fun rs => rs = [x.d']) := by
  have h1 := toIntS_fn x.a hx.1
  have h2 := toIntS_fn x.h hx.2
  refine Fn_of' (fn := f65) (by exact func65) c65 r65 (n := 25) (by rfl) (rv := [.cell 2 66]) (by rfl) (by simp) ?_
  unfold m65
  simp only [App.d']
  repeat' (first
      | (simp only [ints_noOwn, onC_true, ↓wA, ↓wC, wB, frzBE, frzBS, Nat.reduceEqDiff, Nat.reduceAdd, Nat.reduceSub, reduceIte, reduceCtorEq, Nat.reduceBEq, Nat.reduceLT, decide_true, sz66])
      | (refine call_det h1 rfl rfl ?_)
      | (refine call_det h2 rfl rfl ?_)
      | (refine execG_split (fun h => ?_) (fun h => ?_) <;> simp only [h])
      | (refine execC_split (fun h => ?_) (fun h => ?_) <;> (try simp only [h]))
      | (refine onPick_split (fun h => ?_) (fun h => ?_) <;> (try simp only [h])))
def szA (x : App) (n : Int) : Int := if n - x.a.length < 0 then -1 else if n - x.a.length - x.h.length < 0 then -1 else n - x.a.length - x.h.length
theorem szA_bd (x : App) (n : Int) (h1 : n ≤ 1048576) : -1 ≤ szA x n ∧ szA x n ≤ 1048576 := by
  unfold szA
  split
  · omega
  · split <;> omega
theorem szAppeal_fn (x : App) (n : Int) (h0 : 0 ≤ n) (h1 : n ≤ 1048576) (ha : x.a.length ≤ maxLen) (hh : x.h.length ≤ maxLen) : Fn prog 61 [x.d', .int .i64 n] (fun rs => rs = [.int .i64 (szA x n)]) := by
  have k1 := szIntS_fn x.a n h0 h1 ha
  by_cases h2 : n - x.a.length < 0
  · rw [if_pos h2] at k1
    have e1 : decide ((-1 : Int) < 0) = true := by decide
    have e2 : szA x n = -1 := if_pos h2
    rw [e2]
    refine Fn_of' (fn := f61) (by exact func61) c61 r61 (n := 18) (by rfl) (rv := [.tmp 4]) (by rfl) (by simp) ?_
    unfold m61
    simp only [App.d']
    repeat' (first
        | (simp only [ints_noOwn, onC_true, e1, ↓wA, ↓wC, wB, frzBE, frzBS, Nat.reduceEqDiff, Nat.reduceAdd, Nat.reduceSub, reduceIte, reduceCtorEq, Nat.reduceBEq, Nat.reduceLT, decide_true, sz66])
        | (refine call_det k1 rfl rfl ?_)
        | (refine execG_split (fun h => ?_) (fun h => ?_) <;> simp only [h])
        | (refine execC_split (fun h => ?_) (fun h => ?_) <;> (try simp only [h]))
        | (refine onPick_split (fun h => ?_) (fun h => ?_) <;> (try simp only [h])))
  · rw [if_neg h2] at k1
    have e1 : decide (n - (x.a.length : Int) < 0) = false := decide_eq_false h2
    have k2 := szIntS_fn x.h (n - x.a.length) (by omega) (by omega) hh
    by_cases h3 : n - x.a.length - x.h.length < 0
    · rw [if_pos h3] at k2
      have e3 : decide ((-1 : Int) < 0) = true := by decide
      have e2 : szA x n = -1 := by unfold szA; rw [if_neg h2, if_pos h3]
      rw [e2]
      refine Fn_of' (fn := f61) (by exact func61) c61 r61 (n := 18) (by rfl) (rv := [.tmp 4]) (by rfl) (by simp) ?_
      unfold m61
      simp only [App.d']
      repeat' (first
          | (simp only [ints_noOwn, onC_true, e1, e3, ↓wA, ↓wC, wB, frzBE, frzBS, Nat.reduceEqDiff, Nat.reduceAdd, Nat.reduceSub, reduceIte, reduceCtorEq, Nat.reduceBEq, Nat.reduceLT, decide_true, sz66])
          | (refine call_det k1 rfl rfl ?_)
          | (refine call_det k2 rfl rfl ?_)
          | (refine execG_split (fun h => ?_) (fun h => ?_) <;> simp only [h])
          | (refine execC_split (fun h => ?_) (fun h => ?_) <;> (try simp only [h]))
          | (refine onPick_split (fun h => ?_) (fun h => ?_) <;> (try simp only [h])))
    · rw [if_neg h3] at k2
      have e3 : decide (n - (x.a.length : Int) - (x.h.length : Int) < 0) = false := decide_eq_false h3
      have e2 : szA x n = n - x.a.length - x.h.length := by unfold szA; rw [if_neg h2, if_neg h3]
      rw [e2]
      refine Fn_of' (fn := f61) (by exact func61) c61 r61 (n := 18) (by rfl) (rv := [.tmp 4]) (by rfl) (by simp) ?_
      unfold m61
      simp only [App.d']
      repeat' (first
          | (simp only [ints_noOwn, onC_true, e1, e3, ↓wA, ↓wC, wB, frzBE, frzBS, Nat.reduceEqDiff, Nat.reduceAdd, Nat.reduceSub, reduceIte, reduceCtorEq, Nat.reduceBEq, Nat.reduceLT, decide_true, sz66])
          | (refine call_det k1 rfl rfl ?_)
          | (refine call_det k2 rfl rfl ?_)
          | (refine execG_split (fun h => ?_) (fun h => ?_) <;> simp only [h])
          | (refine execC_split (fun h => ?_) (fun h => ?_) <;> (try simp only [h]))
          | (refine onPick_split (fun h => ?_) (fun h => ?_) <;> (try simp only [h])))
abbrev appsD (xs : List App) : D := dl App.d' xs
theorem rd_app {o : List Ob} {K : SV → Prop} {x : App} : stepRd o (some 6) x.d' K = K (.d x.d') := by simp [App.d', stepRd, D.size, D.noOwn, ints_noOwn]
theorem apps_noOwn (xs : List App) : (appsD xs).noOwn = true := dl_noOwn App.noOwn xs
theorem apps_unown (xs : List App) : (appsD xs).unown = appsD xs := dl_unown App.unown xs
theorem eqAppealS_refl (xs : List App) (hlen : xs.length ≤ 1048576) (hx : ∀ x ∈ xs, x.ok0) : Fn prog 12 [.sl false 6 (appsD xs), .sl false 6 (appsD xs)] (fun rs => rs = [.bool true]) := by
  refine Fn_of' (fn := f12) (by exact func12) c12 r12 (n := 27) (by rfl) (rv := [.tmp 4]) (by rfl) (by simp) ?_
  unfold m12
  simp only [↓wA, ↓wC, wB, frzBE, frzBS, Nat.reduceEqDiff, Nat.reduceAdd, Nat.reduceSub, reduceIte, reduceCtorEq, Nat.reduceBEq, Nat.reduceLT, decide_true, sz66]
  refine exec_loop (fun i : Nat => ⟨[(0, .d (.sl false 6 (appsD xs))), (1, .d (.sl false 6 (appsD xs))), (5, .d (.int .i64 i))], []⟩)
    (fun i => i ≤ xs.length) (fun i => xs.length - i) 0 (weak_of [] rfl ⟨⟨rfl, rfl⟩, ⟨rfl, rfl⟩, ⟨rfl, rfl⟩, trivial⟩) (Nat.zero_le _) ?_
  intro i hi
  by_cases hlt : i < xs.length
  · obtain ⟨r, hr⟩ := get_lt hlt
    have hd : decide ((i : Int) < (xs.length : Int)) = true := by simp; omega
    have h0 : (0 : Int) ≤ (i : Int) := by omega
    have he := eqAppeal_refl r (hx r (List.mem_of_getElem? hr))
    repeat' (first
        | (simp only [dl_len, dl_nth, hd, Int.toNat_natCast, hr, Option.map_some, ↓rd_app, h0, onC_true, ↓wA, ↓wC, wB, frzBE, frzBS, Nat.reduceEqDiff, Nat.reduceAdd, Nat.reduceSub, reduceIte, reduceCtorEq, Nat.reduceBEq, Nat.reduceLT, decide_true, sz66])
        | (refine callP_det he (by simp [argsD, argD, valOf, App.unown]) rfl ?_)
        | (refine call_det he (by simp [argsD, argD, valOf, App.unown]) rfl ?_)
        | (refine execG_split (fun h => ?_) (fun h => ?_) <;> simp only [h])
        | (refine execC_split (fun h => ?_) (fun h => ?_) <;> (try simp only [h]))
        | (refine onPick_split (fun h => ?_) (fun h => ?_) <;> (try simp only [h])))
    refine onI_bare (by simp only [InR]; omega) ?_
    exact ⟨i + 1, weak_of [] rfl ⟨⟨rfl, rfl⟩, ⟨rfl, rfl⟩, ⟨rfl, rfl⟩, trivial⟩, by omega, by omega⟩
  · have hd : decide ((i : Int) < (xs.length : Int)) = false := by simp; omega
    simp only [dl_len, hd, ↓wA, ↓wC, wB, frzBE, frzBS, Nat.reduceEqDiff, Nat.reduceAdd, Nat.reduceSub, reduceIte, reduceCtorEq, Nat.reduceBEq, Nat.reduceLT, decide_true, sz66]
end Go.Pe.Try
