/- A decided appeal, walked. -/
import Derived.Test.YtfndpmdjidenpaaAp16
set_option maxRecDepth 100000
set_option maxHeartbeats 4000000
set_option linter.all false
namespace Go.Pe.Try
open Go.Proofs.Try
/-- the states that are told apart: decided as told. -/
def decS (b : Bool) : Int := if b then 2 else 3
def decL (xs : List App) (i : Nat) (x : App) (b : Bool) : List App := xs.set i { x with s := decS b }
def decOK (xs : List App) (x : App) : Bool := goodA xs && decide (x.s = 1)
/-- what is left of the list. -/
def decR (xs : List App) (id : Int) (b : Bool) : Option (List App) := match xs[(findA xs id).toNat]? with
  | some x => if (decide (0 ≤ findA xs id) && decOK xs x) = true then some (decL xs (findA xs id).toNat x b) else none
  | none => none
theorem decR_neg {xs : List App} {id : Int} {b : Bool} (h : decide (0 ≤ findA xs id) = false) : decR xs id b = none := by
  unfold decR
  rw [h]
  split <;> simp
theorem decR_at {xs : List App} {id : Int} {b : Bool} {i : Nat} {x : App} (h : findA xs id = (i : Int)) (hr : xs[i]? = some x) : decR xs id b = if decOK xs x = true then some (decL xs i x b) else none := by
  unfold decR
  rw [h, Int.toNat_natCast, hr]
  simp
/-- the results of a call that hands back appeals. -/
def listR (f : App → D) : Option (List App) → List D
  | some ys => [.sl true 6 (dl f ys), .bool true]
  | none => [.sl true 6 .nil, .bool false]
theorem decideAppeal_fn (xs : List App) (id : Int) (b : Bool) (hlen : xs.length ≤ 1048576) (hx : ∀ x ∈ xs, x.ok0) : Fn prog 36 [.sl false 6 (appsD xs), .int .i64 id, .bool b] (fun rs => rs = listR App.o (decR xs id b)) := by
  have hF := appealAt_fn xs id hlen
  have hG := areAppeals_fn xs hlen hx
  have hC := copyAppeals_fn xs hlen hx
  rcases find_cases xs id with ⟨hn, hn'⟩ | ⟨i, x, hi, hr, _⟩
  · rw [decR_neg hn']
    refine Fn_of' (fn := f36) (by exact func36) c36 r36 (n := 40) (by rfl) (rv := [.tmp 6, .tmp 7]) (by rfl) (by simp) ?_
    unfold m36
    repeat' (first
        | (simp only [hn, ↓wA, ↓wC, wB, frzBE, frzBS, Nat.reduceEqDiff, Nat.reduceAdd, Nat.reduceSub, reduceIte, reduceCtorEq, Nat.reduceBEq, Nat.reduceLT, decide_true])
        | (refine call_det (hF) rfl rfl ?_)
        | (refine callP_det (hF) rfl rfl ?_)
        | (refine call_det (hG) rfl rfl ?_)
        | (refine callP_det (hG) rfl rfl ?_)
        | (refine take_nil 6 ?_)
        | (refine execG_split (fun h => ?_) (fun h => ?_) <;> simp only [h])
        | (refine execC_split (fun h => ?_) (fun h => ?_) <;> (try simp only [h]))
        | (refine onPick_split (fun h => ?_) (fun h => ?_) <;> (try simp only [h])))
    all_goals rfl
  · rw [decR_at hi hr]
    rw [hi] at hF
    have h0 : (0 : Int) ≤ (i : Int) := by omega
    have hn : decide ((i : Int) < 0) = false := decide_eq_false (by omega)
    have hox : App.o x = x.p (.sl true 1 (dl iD x.a)) (.sl true 1 (dl iD x.h)) := rfl
    have hgs : ∀ (y : D), ((dl App.o xs).setN i y).nth i = some y := fun y => by rw [setN_nth, if_pos rfl, dl_nth, hr]; rfl
    unfold decOK
    cases hg : goodA xs with
    | false =>
      rw [hg] at hG
      refine Fn_of' (fn := f36) (by exact func36) c36 r36 (n := 40) (by rfl) (rv := [.tmp 6, .tmp 7]) (by rfl) (by simp) ?_
      unfold m36
      repeat' (first
          | (simp only [hn, ↓wA, ↓wC, wB, frzBE, frzBS, Nat.reduceEqDiff, Nat.reduceAdd, Nat.reduceSub, reduceIte, reduceCtorEq, Nat.reduceBEq, Nat.reduceLT, decide_true])
          | (refine call_det (hF) rfl rfl ?_)
          | (refine callP_det (hF) rfl rfl ?_)
          | (refine call_det (hG) rfl rfl ?_)
          | (refine callP_det (hG) rfl rfl ?_)
          | (refine take_nil 6 ?_)
          | (refine execG_split (fun h => ?_) (fun h => ?_) <;> simp only [h])
          | (refine execC_split (fun h => ?_) (fun h => ?_) <;> (try simp only [h]))
          | (refine onPick_split (fun h => ?_) (fun h => ?_) <;> (try simp only [h])))
      all_goals rfl
    | true =>
      rw [hg] at hG
      cases hs : decide (x.s = 1) with
      | false =>
        refine Fn_of' (fn := f36) (by exact func36) c36 r36 (n := 40) (by rfl) (rv := [.tmp 6, .tmp 7]) (by rfl) (by simp) ?_
        unfold m36
        repeat' (first
            | (simp only [hn, h0, dl_nth, Int.toNat_natCast, hr, Option.map_some, onC_true, ↓fa_app5, hs, ↓wA, ↓wC, wB, frzBE, frzBS, Nat.reduceEqDiff, Nat.reduceAdd, Nat.reduceSub, reduceIte, reduceCtorEq, Nat.reduceBEq, Nat.reduceLT, decide_true])
            | (refine call_det (hF) rfl rfl ?_)
            | (refine callP_det (hF) rfl rfl ?_)
            | (refine call_det (hG) rfl rfl ?_)
            | (refine callP_det (hG) rfl rfl ?_)
            | (refine take_nil 6 ?_)
            | (refine execG_split (fun h => ?_) (fun h => ?_) <;> simp only [h])
            | (refine execC_split (fun h => ?_) (fun h => ?_) <;> (try simp only [h]))
            | (refine onPick_split (fun h => ?_) (fun h => ?_) <;> (try simp only [h])))
        all_goals rfl
      | true =>
        have e : ∀ k : Int, App.p { i := x.i, q := x.q, d := x.d, a := x.a, h := x.h, s := k } (.sl true 1 (dl iD x.a)) (.sl true 1 (dl iD x.h)) = App.o { x with s := k } := fun k => rfl
        refine Fn_of' (fn := f36) (by exact func36) c36 r36 (n := 40) (by rfl) (rv := [.tmp 6, .tmp 7]) (by rfl) (by simp) ?_
        unfold m36
        repeat' (first
            | (simp only [hn, h0, dl_nth, Int.toNat_natCast, hr, Option.map_some, onC_true, ↓fa_app5, hs, hox, hgs, doff_p5, dget_p5, dset_p5, setN_setN, ↓wA, ↓wC, wB, frzBE, frzBS, Nat.reduceEqDiff, Nat.reduceAdd, Nat.reduceSub, reduceIte, reduceCtorEq, Nat.reduceBEq, Nat.reduceLT, decide_true])
            | (refine call_det (hF) rfl rfl ?_)
            | (refine callP_det (hF) rfl rfl ?_)
            | (refine call_det (hG) rfl rfl ?_)
            | (refine callP_det (hG) rfl rfl ?_)
            | (refine call_det hC rfl rfl ?_)
            | (refine execG_split (fun h => ?_) (fun h => ?_) <;> simp only [h])
            | (refine execC_split (fun h => ?_) (fun h => ?_) <;> (try simp only [h]))
            | (refine onPick_split (fun h => ?_) (fun h => ?_) <;> (try simp only [h])))
        all_goals
          rw [e, dl_setN]
          rfl
end Go.Pe.Try
