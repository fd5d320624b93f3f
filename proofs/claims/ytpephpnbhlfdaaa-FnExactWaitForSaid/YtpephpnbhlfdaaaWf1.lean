/- Who waits for a party, walked. -/
import Derived.Test.YtpephpnbhlfdaaaSo2
import Derived.Test.YtpephpnbhlfdaaaHp1
set_option maxRecDepth 100000
set_option maxHeartbeats 4000000
set_option linter.all false
namespace Go.Pe.Try
open Go.Proofs.Try
def waitL (xs : List App) (p : Int) : List App := xs.filter (fun x => waitA x p)
def waitIds (xs : List App) (p : Int) : List Int := (sortA (waitL xs p)).map App.i
def waitOK (xs : List App) (p : Int) : Bool := goodA xs && within p 1 50
def waitR (xs : List App) (p : Int) : List D := if waitOK xs p = true then [.sl true 1 (dl iD (waitIds xs p)), .bool true] else [.sl true 1 .nil, .bool false]
theorem waitL_snoc {xs : List App} {p : Int} {i : Nat} {x : App} (hr : xs[i]? = some x) : waitL (xs.take (i + 1)) p = waitL (xs.take i) p ++ (if waitA x p = true then [x] else []) := by
  rw [take_snoc hr, waitL, waitL, List.filter_append]
  congr 1
  by_cases h : waitA x p = true
  · simp [h]
  · simp [h]
theorem waitL_len (xs : List App) (p : Int) : (waitL xs p).length ≤ xs.length := List.length_filter_le _ _
theorem waitFor_fn (xs : List App) (p : Int) (hlen : xs.length ≤ 1048576) (hx : ∀ x ∈ xs, x.ok0) : Fn prog 13 [.sl false 6 (appsD xs), .int .i64 p] (fun rs => rs = waitR xs p) := by
  have hG := areAppeals_fn xs hlen hx
  have hP := isParty_fn p
  unfold waitR waitOK
  cases hg : goodA xs with
  | false =>
    rw [hg] at hG
    refine Fn_of' (fn := f13) (by exact func13) c13 r13 (n := 49) (by rfl) (rv := [.tmp 4, .tmp 5]) (by rfl) (by simp) ?_
    unfold m13
    repeat' (first
        | (simp only [↓wA, ↓wC, wB, frzBE, frzBS, Nat.reduceEqDiff, Nat.reduceAdd, Nat.reduceSub, reduceIte, reduceCtorEq, Nat.reduceBEq, Nat.reduceLT, decide_true])
        | (refine call_det (hG) rfl rfl ?_)
        | (refine callP_det (hG) rfl rfl ?_)
        | (refine call_det (hP) rfl rfl ?_)
        | (refine callP_det (hP) rfl rfl ?_)
        | (refine execG_split (fun h => ?_) (fun h => ?_) <;> simp only [h])
        | (refine execC_split (fun h => ?_) (fun h => ?_) <;> (try simp only [h]))
        | (refine onPick_split (fun h => ?_) (fun h => ?_) <;> (try simp only [h])))
    refine take_nil 1 ?_
    simp
  | true =>
    rw [hg] at hG
    cases hp : within p 1 50 with
    | false =>
      rw [hp] at hP
      refine Fn_of' (fn := f13) (by exact func13) c13 r13 (n := 49) (by rfl) (rv := [.tmp 4, .tmp 5]) (by rfl) (by simp) ?_
      unfold m13
      repeat' (first
          | (simp only [↓wA, ↓wC, wB, frzBE, frzBS, Nat.reduceEqDiff, Nat.reduceAdd, Nat.reduceSub, reduceIte, reduceCtorEq, Nat.reduceBEq, Nat.reduceLT, decide_true])
          | (refine call_det (hG) rfl rfl ?_)
          | (refine callP_det (hG) rfl rfl ?_)
          | (refine call_det (hP) rfl rfl ?_)
          | (refine callP_det (hP) rfl rfl ?_)
          | (refine execG_split (fun h => ?_) (fun h => ?_) <;> simp only [h])
          | (refine execC_split (fun h => ?_) (fun h => ?_) <;> (try simp only [h]))
          | (refine onPick_split (fun h => ?_) (fun h => ?_) <;> (try simp only [h])))
      refine take_nil 1 ?_
      simp
    | true =>
      rw [hp] at hP
      have hl10 := (goodA_ok hg).1
      have hwl := waitL_len xs p
      have hSo := sortStable_fn (waitL xs p) (by omega)
      have hsl := sortA_len (waitL xs p)
      have happ : ∀ (V : List App) (x : App), (dl App.d' V).app (D.cons x.d' .nil) = dl App.d' (V ++ [x]) := fun V x => app_one V x
      have hdo0 : ∀ y : App, doff [0] y.d' = 0 := fun y => by simp [App.d', doff, D.pre, D.nth, D.size]
      have hdg0 : ∀ y : App, dget [0] y.d' = some (.int .i64 y.i) := fun y => rfl
      refine Fn_of' (fn := f13) (by exact func13) c13 r13 (n := 49) (by rfl) (rv := [.tmp 4, .tmp 5]) (by rfl) (by simp) ?_
      unfold m13
      repeat' (first
          | (simp only [dl_len, ↓wA, ↓wC, wB, frzBE, frzBS, Nat.reduceEqDiff, Nat.reduceAdd, Nat.reduceSub, reduceIte, reduceCtorEq, Nat.reduceBEq, Nat.reduceLT, decide_true])
          | (refine call_det (hG) rfl rfl ?_)
          | (refine callP_det (hG) rfl rfl ?_)
          | (refine call_det (hP) rfl rfl ?_)
          | (refine callP_det (hP) rfl rfl ?_)
          | (refine execG_split (fun h => ?_) (fun h => ?_) <;> simp only [h])
          | (refine execC_split (fun h => ?_) (fun h => ?_) <;> (try simp only [h]))
          | (refine onPick_split (fun h => ?_) (fun h => ?_) <;> (try simp only [h])))
      refine exec_rangeN [(6, 6)] xs.length (fun i : Nat => ⟨[(1, .d (.int .i64 p)), (6, .own 0), (20, .d (.sl false 6 (appsD xs))), (21, .d (.int .i64 xs.length)), (22, .d (.int .i64 i))], [.val (.sl true 6 (dl App.d' (waitL (xs.take i) p)))]⟩) (fun _ => True) ⟨rfl, trivial⟩ ?_ trivial ?_ ?_
      · exact (weak_of _ rfl ⟨⟨rfl, rfl⟩, ⟨rfl, rfl⟩, ⟨rfl, rfl⟩, ⟨rfl, rfl⟩, ⟨rfl, rfl⟩, trivial⟩)
      · intro i hlt _ hd h0
        obtain ⟨x, hr⟩ := get_lt hlt
        have hm := List.mem_of_getElem? hr
        have hW := waits_fn x p (hx x hm)
        have hW' : Fn prog 26 [x.d'.unown, .int .i64 p] (fun rs => rs = [.bool (waitA x p)]) := by rw [App.unown]; exact hW
        have hsn := waitL_snoc (p := p) hr
        have hvl : (waitL (xs.take i) p).length ≤ 10 := Nat.le_trans (waitL_len _ _) (by simp; omega)
        cases hw : waitA x p with
        | false =>
          rw [hw] at hW hW' hsn
          repeat' (first
              | (simp only [dl_len, hd, h0, dl_nth, Int.toNat_natCast, hr, Option.map_some, onC_true, ↓rd_app, oa_size, oa_isV, App.noOwn, ↓wA, ↓wC, wB, frzBE, frzBS, Nat.reduceEqDiff, Nat.reduceAdd, Nat.reduceSub, reduceIte, reduceCtorEq, Nat.reduceBEq, Nat.reduceLT, decide_true])
              | (refine call_det (hW) rfl rfl ?_)
              | (refine callP_det (hW) rfl rfl ?_)
              | (refine call_det (hW') rfl rfl ?_)
              | (refine callP_det (hW') rfl rfl ?_)
              | (with_reducible refine onI_bare ?_ ?_; focus (simp only [InR]; omega))
              | (refine execG_split (fun h => ?_) (fun h => ?_) <;> simp only [h])
              | (refine execC_split (fun h => ?_) (fun h => ?_) <;> (try simp only [h]))
              | (refine onPick_split (fun h => ?_) (fun h => ?_) <;> (try simp only [h])))
          refine ⟨i + 1, ?_, by omega, by omega⟩
          rw [hsn]
          simp only [Bool.false_eq_true, if_false, List.append_nil]
          exact (weak_of _ rfl ⟨⟨rfl, rfl⟩, ⟨rfl, rfl⟩, ⟨rfl, rfl⟩, ⟨rfl, rfl⟩, ⟨rfl, rfl⟩, trivial⟩)
        | true =>
          rw [hw] at hW hW' hsn
          repeat' (first
              | (simp only [dl_len, hd, h0, dl_nth, Int.toNat_natCast, hr, Option.map_some, onC_true, ↓rd_app, oa_size, oa_isV, App.noOwn, happ, ↓wA, ↓wC, wB, frzBE, frzBS, Nat.reduceEqDiff, Nat.reduceAdd, Nat.reduceSub, reduceIte, reduceCtorEq, Nat.reduceBEq, Nat.reduceLT, decide_true])
              | (refine call_det (hW) rfl rfl ?_)
              | (refine callP_det (hW) rfl rfl ?_)
              | (refine call_det (hW') rfl rfl ?_)
              | (refine callP_det (hW') rfl rfl ?_)
              | (with_reducible refine onI_bare ?_ ?_; focus (simp only [InR]; omega))
              | (with_reducible refine onC_i ?_ ?_; focus omega)
              | (with_reducible refine onC_i ?_ ?_; focus (simp; done))
              | (refine execG_split (fun h => ?_) (fun h => ?_) <;> simp only [h])
              | (refine execC_split (fun h => ?_) (fun h => ?_) <;> (try simp only [h]))
              | (refine onPick_split (fun h => ?_) (fun h => ?_) <;> (try simp only [h])))
          refine ⟨i + 1, ?_, by omega, by omega⟩
          rw [hsn]
          simp only [if_true]
          exact (weak_of _ rfl ⟨⟨rfl, rfl⟩, ⟨rfl, rfl⟩, ⟨rfl, rfl⟩, ⟨rfl, rfl⟩, ⟨rfl, rfl⟩, trivial⟩)
      · intro _ hd
        have e1 : xs.take xs.length = xs := List.take_length
        rw [e1]
        repeat' (first
            | (simp only [hd, dl_len, ↓wA, ↓wC, wB, frzBE, frzBS, Nat.reduceEqDiff, Nat.reduceAdd, Nat.reduceSub, reduceIte, reduceCtorEq, Nat.reduceBEq, Nat.reduceLT, decide_true])
            | (refine callM_det hSo rfl rfl rfl ?_)
            | (refine execG_split (fun h => ?_) (fun h => ?_) <;> simp only [h])
            | (refine execC_split (fun h => ?_) (fun h => ?_) <;> (try simp only [h]))
            | (refine onPick_split (fun h => ?_) (fun h => ?_) <;> (try simp only [h])))
        generalize hL : sortA (waitL xs p) = L at hsl
        have hLi : waitIds xs p = L.map App.i := by rw [waitIds, hL]
        refine exec_rangeN [(9, 1)] L.length (fun i : Nat => ⟨[(9, .own 1), (36, .own 0), (37, .d (.int .i64 L.length)), (38, .d (.int .i64 i))], [.val (.sl true 6 (dl App.d' L)), .val (.sl true 1 (dl iD ((L.take i).map App.i)))]⟩) (fun _ => True) ⟨rfl, trivial⟩ ?_ trivial ?_ ?_
        · exact (weak_of _ rfl ⟨⟨rfl, rfl⟩, ⟨rfl, rfl⟩, ⟨rfl, rfl⟩, ⟨rfl, rfl⟩, trivial⟩)
        · intro i hlt _ hd h0
          obtain ⟨x, hr⟩ := get_lt hlt
          have hsn : (L.take (i + 1)).map App.i = (L.take i).map App.i ++ [x.i] := by rw [take_snoc hr, List.map_append]; rfl
          have hvl : ((L.take i).map App.i).length ≤ 10 := by simp; omega
          repeat' (first
              | (simp only [dl_len, hd, h0, dl_nth, Int.toNat_natCast, hr, Option.map_some, onC_true, ↓rd_app, oa_size, oa_isV, App.noOwn, app_int, hdo0, hdg0, ↓wA, ↓wC, wB, frzBE, frzBS, Nat.reduceEqDiff, Nat.reduceAdd, Nat.reduceSub, reduceIte, reduceCtorEq, Nat.reduceBEq, Nat.reduceLT, decide_true])
              | (with_reducible refine onI_bare ?_ ?_; focus (simp only [InR]; omega))
              | (with_reducible refine onC_i ?_ ?_; focus omega)
              | (with_reducible refine onC_i ?_ ?_; focus (simp; done))
              | (refine execG_split (fun h => ?_) (fun h => ?_) <;> simp only [h])
              | (refine execC_split (fun h => ?_) (fun h => ?_) <;> (try simp only [h]))
              | (refine onPick_split (fun h => ?_) (fun h => ?_) <;> (try simp only [h])))
          refine ⟨i + 1, ?_, by omega, by omega⟩
          rw [hsn]
          exact (weak_of _ rfl ⟨⟨rfl, rfl⟩, ⟨rfl, rfl⟩, ⟨rfl, rfl⟩, ⟨rfl, rfl⟩, trivial⟩)
        · intro _ hd
          have e2 : L.take L.length = L := List.take_length
          rw [e2]
          repeat' (first
              | (simp only [hd, ↓wA, ↓wC, wB, frzBE, frzBS, Nat.reduceEqDiff, Nat.reduceAdd, Nat.reduceSub, reduceIte, reduceCtorEq, Nat.reduceBEq, Nat.reduceLT, decide_true])
              | (refine execG_split (fun h => ?_) (fun h => ?_) <;> simp only [h])
              | (refine execC_split (fun h => ?_) (fun h => ?_) <;> (try simp only [h]))
              | (refine onPick_split (fun h => ?_) (fun h => ?_) <;> (try simp only [h])))
          rw [hLi]
end Go.Pe.Try
