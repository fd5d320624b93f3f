/- A party heard, walked. -/
import Derived.Test.YtpephpnbhlfdaaaSo1
set_option maxRecDepth 100000
set_option maxHeartbeats 4000000
set_option linter.all false
namespace Go.Pe.Try
open Go.Proofs.Try
def waitA (x : App) (p : Int) : Bool := decide (x.s = 0) && x.a.contains p && !x.h.contains p
def hearA (x : App) (p : Int) : App := { x with h := putI p x.h, s := if ((putI p x.h).length : Int) = (x.a.length : Int) then 1 else x.s }
def hearOK (xs : List App) (x : App) (p : Int) : Bool := goodA xs && waitA x p
def hearR (xs : List App) (id p : Int) : Option (List App) := match xs[(findA xs id).toNat]? with
  | some x => if (decide (0 ≤ findA xs id) && hearOK xs x p) = true then some (xs.set (findA xs id).toNat (hearA x p)) else none
  | none => none
theorem hearR_neg {xs : List App} {id p : Int} (h : decide (0 ≤ findA xs id) = false) : hearR xs id p = none := by
  unfold hearR
  rw [h]
  split <;> simp
theorem hearR_at {xs : List App} {id p : Int} {i : Nat} {x : App} (h : findA xs id = (i : Int)) (hr : xs[i]? = some x) : hearR xs id p = if hearOK xs x p = true then some (xs.set i (hearA x p)) else none := by
  unfold hearR
  rw [h, Int.toNat_natCast, hr]
  simp
theorem putI_len {p : Int} {v : List Int} : (putI p v).length = v.length + 1 := by
  simp only [putI, List.length_append, List.length_cons, List.length_take, List.length_drop]
  omega
theorem risen_of {v : List Int} (h : rises v = true) : risen v := fun j a b ha hb => by
  have := (rises_iff v).1 h j (lt_of_get hb)
  rw [List.getD_eq_getElem?_getD, List.getD_eq_getElem?_getD, ha, hb] at this
  exact this
theorem wait_parts {xs : List App} {x : App} {p : Int} (hg : goodA xs = true) (hm : x ∈ xs) (hw : waitA x p = true) : x.s = 0 ∧ x.h.length ≤ 6 ∧ x.a.length ≤ 6 ∧ risen x.h ∧ p ∉ x.h := by
  have hk := (goodA_ok hg).2.2 x hm
  have hp := okA_parts hk
  simp only [waitA, Bool.and_eq_true, decide_eq_true_eq, Bool.not_eq_true'] at hw
  have hs := hw.1.1
  have hc := hw.2
  simp only [okA, Bool.and_eq_true] at hk
  have hl := hk.2
  rw [hs] at hl
  have hlt : x.h.length < x.a.length := by simpa using hl
  refine ⟨hs, by omega, by omega, risen_of hp.2.2.2.2.2.2.1, fun h => ?_⟩
  rw [List.contains_iff_mem.2 h] at hc
  cases hc
theorem waits_fn (x : App) (p : Int) (hx : x.ok0) : Fn prog 26 [x.d', .int .i64 p] (fun rs => rs = [.bool (waitA x p)]) := by
  have h1 := containsI_fn x.a p hx.1
  have h2 := containsI_fn x.h p hx.2
  refine Fn_of' (fn := f26) (by exact func26) c26 r26 (n := 21) (by rfl) (rv := [.tmp 4]) (by rfl) (by simp) ?_
  unfold m26
  simp only [App.d']
  repeat' (first
      | (simp only [ints_noOwn, onC_true, ↓wA, ↓wC, wB, frzBE, frzBS, Nat.reduceEqDiff, Nat.reduceAdd, Nat.reduceSub, reduceIte, reduceCtorEq, Nat.reduceBEq, Nat.reduceLT, decide_true])
      | (refine call_det (h1) rfl rfl ?_)
      | (refine callP_det (h1) rfl rfl ?_)
      | (refine call_det (h2) rfl rfl ?_)
      | (refine callP_det (h2) rfl rfl ?_)
      | (refine execG_split (fun h => ?_) (fun h => ?_) <;> simp only [h])
      | (refine execC_split (fun h => ?_) (fun h => ?_) <;> (try simp only [h]))
      | (refine onPick_split (fun h => ?_) (fun h => ?_) <;> (try simp only [h])))
  all_goals simp_all [waitA]
theorem hearParty_fn (xs : List App) (id p : Int) (hlen : xs.length ≤ 1048576) (hx : ∀ x ∈ xs, x.ok0) : Fn prog 8 [.sl false 6 (appsD xs), .int .i64 id, .int .i64 p] (fun rs => rs = listR App.o (hearR xs id p)) := by
  have hF := appealAt_fn xs id hlen
  have hG := areAppeals_fn xs hlen hx
  have hC := copyAppeals_fn xs hlen hx
  rcases find_cases xs id with ⟨hn, hn'⟩ | ⟨i, x, hi, hr, _⟩
  · rw [hearR_neg hn']
    refine Fn_of' (fn := f8) (by exact func8) c8 r8 (n := 65) (by rfl) (rv := [.tmp 6, .tmp 7]) (by rfl) (by simp) ?_
    unfold m8
    repeat' (first
        | (simp only [hn, ↓wA, ↓wC, wB, frzBE, frzBS, Nat.reduceEqDiff, Nat.reduceAdd, Nat.reduceSub, reduceIte, reduceCtorEq, Nat.reduceBEq, Nat.reduceLT, decide_true])
        | (refine call_det (hF) rfl rfl ?_)
        | (refine callP_det (hF) rfl rfl ?_)
        | (refine call_det (hG) rfl rfl ?_)
        | (refine callP_det (hG) rfl rfl ?_)
        | (refine take_nil 6 ?_)
        | (refine execG_split (fun h => ?_) (fun h => ?_) <;> simp only [h])
        | (refine execC_split (fun h => ?_) (fun h => ?_) <;> (try simp only [h]))
        | (refine onPick_split (fun h => ?_) (fun h => ?_) <;> (try simp only [h])))
    all_goals rfl
  · rw [hearR_at hi hr]
    rw [hi] at hF
    have hm := List.mem_of_getElem? hr
    have h0 : (0 : Int) ≤ (i : Int) := by omega
    have hn : decide ((i : Int) < 0) = false := decide_eq_false (by omega)
    have hW := waits_fn x p (hx x hm)
    have hW' : Fn prog 26 [x.d'.unown, .int .i64 p] (fun rs => rs = [.bool (waitA x p)]) := by rw [App.unown]; exact hW
    unfold hearOK
    cases hg : goodA xs with
    | false =>
      rw [hg] at hG
      refine Fn_of' (fn := f8) (by exact func8) c8 r8 (n := 65) (by rfl) (rv := [.tmp 6, .tmp 7]) (by rfl) (by simp) ?_
      unfold m8
      repeat' (first
          | (simp only [hn, ↓wA, ↓wC, wB, frzBE, frzBS, Nat.reduceEqDiff, Nat.reduceAdd, Nat.reduceSub, reduceIte, reduceCtorEq, Nat.reduceBEq, Nat.reduceLT, decide_true])
          | (refine call_det (hF) rfl rfl ?_)
          | (refine callP_det (hF) rfl rfl ?_)
          | (refine call_det (hG) rfl rfl ?_)
          | (refine callP_det (hG) rfl rfl ?_)
          | (refine take_nil 6 ?_)
          | (refine execG_split (fun h => ?_) (fun h => ?_) <;> simp only [h])
          | (refine execC_split (fun h => ?_) (fun h => ?_) <;> (try simp only [h]))
          | (refine onPick_split (fun h => ?_) (fun h => ?_) <;> (try simp only [h])))
      all_goals rfl
    | true =>
      rw [hg] at hG
      cases hw : waitA x p with
      | false =>
        rw [hw] at hW hW'
        refine Fn_of' (fn := f8) (by exact func8) c8 r8 (n := 65) (by rfl) (rv := [.tmp 6, .tmp 7]) (by rfl) (by simp) ?_
        unfold m8
        repeat' (first
            | (simp only [hn, h0, dl_nth, Int.toNat_natCast, hr, Option.map_some, onC_true, ↓rd_app, oa_size, oa_isV, App.noOwn, ↓wA, ↓wC, wB, frzBE, frzBS, Nat.reduceEqDiff, Nat.reduceAdd, Nat.reduceSub, reduceIte, reduceCtorEq, Nat.reduceBEq, Nat.reduceLT, decide_true])
            | (refine call_det (hF) rfl rfl ?_)
            | (refine callP_det (hF) rfl rfl ?_)
            | (refine call_det (hG) rfl rfl ?_)
            | (refine callP_det (hG) rfl rfl ?_)
            | (refine call_det (hW) rfl rfl ?_)
            | (refine callP_det (hW) rfl rfl ?_)
            | (refine call_det (hW') rfl rfl ?_)
            | (refine callP_det (hW') rfl rfl ?_)
            | (refine take_nil 6 ?_)
            | (refine execG_split (fun h => ?_) (fun h => ?_) <;> simp only [h])
            | (refine execC_split (fun h => ?_) (fun h => ?_) <;> (try simp only [h]))
            | (refine onPick_split (fun h => ?_) (fun h => ?_) <;> (try simp only [h])))
        all_goals rfl
      | true =>
        rw [hw] at hW hW'
        obtain ⟨hs, hh6, ha6, hri, hpn⟩ := wait_parts hg hm hw
        have hSo := sort_fn p x.h hri hpn hh6
        have hox : App.o x = x.p (.sl true 1 (dl iD x.a)) (.sl true 1 (dl iD x.h)) := rfl
        have hgs : ∀ (y : D), ((dl App.o xs).setN i y).nth i = some y := fun y => by rw [setN_nth, if_pos rfl, dl_nth, hr]; rfl
        have hln : ∀ q v, (D.lnk q v).noOwn = true := fun _ _ => rfl
        have hls : ∀ q v, (D.lnk q v).size = 1 := fun _ _ => rfl
        have hpl : ((putI p x.h).length : Int) = (x.h.length : Int) + 1 := by rw [putI_len]; omega
        cases hc : decide (((putI p x.h).length : Int) = (x.a.length : Int)) with
        | false =>
          have e : hearA x p = { x with h := putI p x.h, s := x.s } := by rw [hearA, if_neg (of_decide_eq_false hc)]
          have ek : x.p (.sl true 1 (dl iD x.a)) (.sl true 1 (dl iD (putI p x.h))) = App.o (hearA x p) := by rw [e]; rfl
          refine Fn_ofg (ps := [[1, 1, 1, 1, 1, 1, 1, 0, 0], [1, 1, 1, 1, 1, 1, 1, 1, 0], [1, 1, 1, 1, 1, 1, 1, 1, 0], [1, 1, 1, 1, 1, 1, 0], [1, 1, 1, 1, 1, 0]]) (fn := f8) (by exact func8) c8 r8 (n := 65) (by rfl) (rv := [.tmp 6, .tmp 7]) (by rfl) (by simp) ?_
          unfold m8
          simp only [ghAll, ghAt]
          repeat' (first
              | (simp only [hn, h0, dl_nth, Int.toNat_natCast, hr, Option.map_some, onC_true, ↓rd_app, oa_size, oa_isV, App.noOwn, ↓wA, ↓wC, wB, frzBE, frzBS, Nat.reduceEqDiff, Nat.reduceAdd, Nat.reduceSub, reduceIte, reduceCtorEq, Nat.reduceBEq, Nat.reduceLT, decide_true])
              | (refine call_det (hF) rfl rfl ?_)
              | (refine callP_det (hF) rfl rfl ?_)
              | (refine call_det (hG) rfl rfl ?_)
              | (refine callP_det (hG) rfl rfl ?_)
              | (refine call_det (hW) rfl rfl ?_)
              | (refine callP_det (hW) rfl rfl ?_)
              | (refine call_det (hW') rfl rfl ?_)
              | (refine callP_det (hW') rfl rfl ?_)
              | (refine call_det hC rfl rfl ?_)
              | (refine execG_split (fun h => ?_) (fun h => ?_) <;> simp only [h])
              | (refine execC_split (fun h => ?_) (fun h => ?_) <;> (try simp only [h]))
              | (refine onPick_split (fun h => ?_) (fun h => ?_) <;> (try simp only [h])))
          refine exec_gh _ (unlink 0 (some i) [4] (es := 1) (xs := dl iD x.h) rfl (by simp only [obPart, dl_nth, hr, Option.map_some, hox, Option.bind_some, dget_p4])) fun v1 => ?_
          simp only [obSet, dl_nth, hr, Option.map_some, Option.getD_some, hox, dset_p4, ↓wA, ↓wC, wB, frzBE, frzBS, Nat.reduceEqDiff, Nat.reduceAdd, Nat.reduceSub, reduceIte, reduceCtorEq, Nat.reduceBEq, Nat.reduceLT, decide_true]
          repeat' (first
              | (simp only [h0, Int.toNat_natCast, hgs, onC_true, rd_p, size_p, isV_p, noOwn_p, hln, hls, doff_p3, dget_p3, dset_p3, doff_p4, dget_p4, dset_p4, doff_p5, dget_p5, dset_p5, dl_len, hc, setN_setN, app_int, Option.getD_some, Option.map_some, ↓wA, ↓wC, wB, frzBE, frzBS, Nat.reduceEqDiff, Nat.reduceAdd, Nat.reduceSub, reduceIte, reduceCtorEq, Nat.reduceBEq, Nat.reduceLT, decide_true])
              | (with_reducible refine onC_i ?_ ?_; focus omega)
              | (with_reducible refine onC_i ?_ ?_; focus (simp; done))
              | (refine execG_split (fun h => ?_) (fun h => ?_) <;> simp only [h])
              | (refine execC_split (fun h => ?_) (fun h => ?_) <;> (try simp only [h]))
              | (refine onPick_split (fun h => ?_) (fun h => ?_) <;> (try simp only [h])))
          refine exec_gh _ (unlink 0 (some i) [4] (es := 1) (xs := dl iD (x.h ++ [p])) rfl (by simp only [obPart, hgs, Option.bind_some, dget_p4])) fun v2 => ?_
          simp only [obSet, hgs, Option.getD_some, dset_p4, setN_setN, ↓wA, ↓wC, wB, frzBE, frzBS, Nat.reduceEqDiff, Nat.reduceAdd, Nat.reduceSub, reduceIte, reduceCtorEq, Nat.reduceBEq, Nat.reduceLT, decide_true]
          repeat' (first
              | (simp only [h0, Int.toNat_natCast, hgs, onC_true, rd_p, size_p, isV_p, noOwn_p, hln, hls, doff_p3, dget_p3, dset_p3, doff_p4, dget_p4, dset_p4, doff_p5, dget_p5, dset_p5, dl_len, hc, setN_setN, app_int, Option.getD_some, Option.map_some, ↓wA, ↓wC, wB, frzBE, frzBS, Nat.reduceEqDiff, Nat.reduceAdd, Nat.reduceSub, reduceIte, reduceCtorEq, Nat.reduceBEq, Nat.reduceLT, decide_true])
              | (refine callM_det hSo rfl rfl rfl ?_)
              | (with_reducible refine onC_i ?_ ?_; focus omega)
              | (with_reducible refine onC_i ?_ ?_; focus (simp; done))
              | (refine execG_split (fun h => ?_) (fun h => ?_) <;> simp only [h])
              | (refine execC_split (fun h => ?_) (fun h => ?_) <;> (try simp only [h]))
              | (refine onPick_split (fun h => ?_) (fun h => ?_) <;> (try simp only [h])))
          refine exec_gh _ (unlink 0 (some i) [3] (es := 1) (xs := dl iD x.a) rfl (by simp only [obPart, hgs, Option.bind_some, dget_p3])) fun v3 => ?_
          simp only [obSet, hgs, Option.getD_some, dset_p3, setN_setN, ↓wA, ↓wC, wB, frzBE, frzBS, Nat.reduceEqDiff, Nat.reduceAdd, Nat.reduceSub, reduceIte, reduceCtorEq, Nat.reduceBEq, Nat.reduceLT, decide_true]
          repeat' (first
              | (simp only [h0, Int.toNat_natCast, hgs, onC_true, rd_p, size_p, isV_p, noOwn_p, hln, hls, doff_p3, dget_p3, dset_p3, doff_p4, dget_p4, dset_p4, doff_p5, dget_p5, dset_p5, dl_len, hc, setN_setN, app_int, Option.getD_some, Option.map_some, ↓wA, ↓wC, wB, frzBE, frzBS, Nat.reduceEqDiff, Nat.reduceAdd, Nat.reduceSub, reduceIte, reduceCtorEq, Nat.reduceBEq, Nat.reduceLT, decide_true])
              | (with_reducible refine onC_i ?_ ?_; focus omega)
              | (with_reducible refine onC_i ?_ ?_; focus (simp; done))
              | (refine execG_split (fun h => ?_) (fun h => ?_) <;> simp only [h])
              | (refine execC_split (fun h => ?_) (fun h => ?_) <;> (try simp only [h]))
              | (refine onPick_split (fun h => ?_) (fun h => ?_) <;> (try simp only [h])))
          refine exec_gh1 (relink 0 5 4 (some i) [4] rfl (by simp only [obPart, hgs, Option.bind_some, dget_p4]) rfl rfl (by decide) rfl) ?_
          simp only [obSet, hgs, Option.getD_some, dset_p4, setN_setN, ↓wA, ↓wC, wB, frzBE, frzBS, Nat.reduceEqDiff, Nat.reduceAdd, Nat.reduceSub, reduceIte, reduceCtorEq, Nat.reduceBEq, Nat.reduceLT, decide_true]
          refine exec_gh1 (relink 0 7 6 (some i) [3] rfl (by simp only [obPart, hgs, Option.bind_some, dget_p3]) rfl rfl (by decide) rfl) ?_
          simp only [obSet, hgs, Option.getD_some, dset_p3, setN_setN, ↓wA, ↓wC, wB, frzBE, frzBS, Nat.reduceEqDiff, Nat.reduceAdd, Nat.reduceSub, reduceIte, reduceCtorEq, Nat.reduceBEq, Nat.reduceLT, decide_true]
          rw [ek, dl_setN]
          rfl
        | true =>
          have e : hearA x p = { x with h := putI p x.h, s := 1 } := by rw [hearA, if_pos (of_decide_eq_true hc)]
          have ek : App.p { i := x.i, q := x.q, d := x.d, a := x.a, h := x.h, s := 1 } (.sl true 1 (dl iD x.a)) (.sl true 1 (dl iD (putI p x.h))) = App.o (hearA x p) := by rw [e]; rfl
          refine Fn_ofg (ps := [[1, 1, 1, 1, 1, 1, 1, 0, 0], [1, 1, 1, 1, 1, 1, 1, 1, 0], [1, 1, 1, 1, 1, 1, 1, 1, 0], [1, 1, 1, 1, 1, 1, 0], [1, 1, 1, 1, 1, 0]]) (fn := f8) (by exact func8) c8 r8 (n := 65) (by rfl) (rv := [.tmp 6, .tmp 7]) (by rfl) (by simp) ?_
          unfold m8
          simp only [ghAll, ghAt]
          repeat' (first
              | (simp only [hn, h0, dl_nth, Int.toNat_natCast, hr, Option.map_some, onC_true, ↓rd_app, oa_size, oa_isV, App.noOwn, ↓wA, ↓wC, wB, frzBE, frzBS, Nat.reduceEqDiff, Nat.reduceAdd, Nat.reduceSub, reduceIte, reduceCtorEq, Nat.reduceBEq, Nat.reduceLT, decide_true])
              | (refine call_det (hF) rfl rfl ?_)
              | (refine callP_det (hF) rfl rfl ?_)
              | (refine call_det (hG) rfl rfl ?_)
              | (refine callP_det (hG) rfl rfl ?_)
              | (refine call_det (hW) rfl rfl ?_)
              | (refine callP_det (hW) rfl rfl ?_)
              | (refine call_det (hW') rfl rfl ?_)
              | (refine callP_det (hW') rfl rfl ?_)
              | (refine call_det hC rfl rfl ?_)
              | (refine execG_split (fun h => ?_) (fun h => ?_) <;> simp only [h])
              | (refine execC_split (fun h => ?_) (fun h => ?_) <;> (try simp only [h]))
              | (refine onPick_split (fun h => ?_) (fun h => ?_) <;> (try simp only [h])))
          refine exec_gh _ (unlink 0 (some i) [4] (es := 1) (xs := dl iD x.h) rfl (by simp only [obPart, dl_nth, hr, Option.map_some, hox, Option.bind_some, dget_p4])) fun v1 => ?_
          simp only [obSet, dl_nth, hr, Option.map_some, Option.getD_some, hox, dset_p4, ↓wA, ↓wC, wB, frzBE, frzBS, Nat.reduceEqDiff, Nat.reduceAdd, Nat.reduceSub, reduceIte, reduceCtorEq, Nat.reduceBEq, Nat.reduceLT, decide_true]
          repeat' (first
              | (simp only [h0, Int.toNat_natCast, hgs, onC_true, rd_p, size_p, isV_p, noOwn_p, hln, hls, doff_p3, dget_p3, dset_p3, doff_p4, dget_p4, dset_p4, doff_p5, dget_p5, dset_p5, dl_len, hc, setN_setN, app_int, Option.getD_some, Option.map_some, ↓wA, ↓wC, wB, frzBE, frzBS, Nat.reduceEqDiff, Nat.reduceAdd, Nat.reduceSub, reduceIte, reduceCtorEq, Nat.reduceBEq, Nat.reduceLT, decide_true])
              | (with_reducible refine onC_i ?_ ?_; focus omega)
              | (with_reducible refine onC_i ?_ ?_; focus (simp; done))
              | (refine execG_split (fun h => ?_) (fun h => ?_) <;> simp only [h])
              | (refine execC_split (fun h => ?_) (fun h => ?_) <;> (try simp only [h]))
              | (refine onPick_split (fun h => ?_) (fun h => ?_) <;> (try simp only [h])))
          refine exec_gh _ (unlink 0 (some i) [4] (es := 1) (xs := dl iD (x.h ++ [p])) rfl (by simp only [obPart, hgs, Option.bind_some, dget_p4])) fun v2 => ?_
          simp only [obSet, hgs, Option.getD_some, dset_p4, setN_setN, ↓wA, ↓wC, wB, frzBE, frzBS, Nat.reduceEqDiff, Nat.reduceAdd, Nat.reduceSub, reduceIte, reduceCtorEq, Nat.reduceBEq, Nat.reduceLT, decide_true]
          repeat' (first
              | (simp only [h0, Int.toNat_natCast, hgs, onC_true, rd_p, size_p, isV_p, noOwn_p, hln, hls, doff_p3, dget_p3, dset_p3, doff_p4, dget_p4, dset_p4, doff_p5, dget_p5, dset_p5, dl_len, hc, setN_setN, app_int, Option.getD_some, Option.map_some, ↓wA, ↓wC, wB, frzBE, frzBS, Nat.reduceEqDiff, Nat.reduceAdd, Nat.reduceSub, reduceIte, reduceCtorEq, Nat.reduceBEq, Nat.reduceLT, decide_true])
              | (refine callM_det hSo rfl rfl rfl ?_)
              | (with_reducible refine onC_i ?_ ?_; focus omega)
              | (with_reducible refine onC_i ?_ ?_; focus (simp; done))
              | (refine execG_split (fun h => ?_) (fun h => ?_) <;> simp only [h])
              | (refine execC_split (fun h => ?_) (fun h => ?_) <;> (try simp only [h]))
              | (refine onPick_split (fun h => ?_) (fun h => ?_) <;> (try simp only [h])))
          refine exec_gh _ (unlink 0 (some i) [3] (es := 1) (xs := dl iD x.a) rfl (by simp only [obPart, hgs, Option.bind_some, dget_p3])) fun v3 => ?_
          simp only [obSet, hgs, Option.getD_some, dset_p3, setN_setN, ↓wA, ↓wC, wB, frzBE, frzBS, Nat.reduceEqDiff, Nat.reduceAdd, Nat.reduceSub, reduceIte, reduceCtorEq, Nat.reduceBEq, Nat.reduceLT, decide_true]
          repeat' (first
              | (simp only [h0, Int.toNat_natCast, hgs, onC_true, rd_p, size_p, isV_p, noOwn_p, hln, hls, doff_p3, dget_p3, dset_p3, doff_p4, dget_p4, dset_p4, doff_p5, dget_p5, dset_p5, dl_len, hc, setN_setN, app_int, Option.getD_some, Option.map_some, ↓wA, ↓wC, wB, frzBE, frzBS, Nat.reduceEqDiff, Nat.reduceAdd, Nat.reduceSub, reduceIte, reduceCtorEq, Nat.reduceBEq, Nat.reduceLT, decide_true])
              | (with_reducible refine onC_i ?_ ?_; focus omega)
              | (with_reducible refine onC_i ?_ ?_; focus (simp; done))
              | (refine execG_split (fun h => ?_) (fun h => ?_) <;> simp only [h])
              | (refine execC_split (fun h => ?_) (fun h => ?_) <;> (try simp only [h]))
              | (refine onPick_split (fun h => ?_) (fun h => ?_) <;> (try simp only [h])))
          refine exec_gh1 (relink 0 5 4 (some i) [4] rfl (by simp only [obPart, hgs, Option.bind_some, dget_p4]) rfl rfl (by decide) rfl) ?_
          simp only [obSet, hgs, Option.getD_some, dset_p4, setN_setN, ↓wA, ↓wC, wB, frzBE, frzBS, Nat.reduceEqDiff, Nat.reduceAdd, Nat.reduceSub, reduceIte, reduceCtorEq, Nat.reduceBEq, Nat.reduceLT, decide_true]
          refine exec_gh1 (relink 0 7 6 (some i) [3] rfl (by simp only [obPart, hgs, Option.bind_some, dget_p3]) rfl rfl (by decide) rfl) ?_
          simp only [obSet, hgs, Option.getD_some, dset_p3, setN_setN, ↓wA, ↓wC, wB, frzBE, frzBS, Nat.reduceEqDiff, Nat.reduceAdd, Nat.reduceSub, reduceIte, reduceCtorEq, Nat.reduceBEq, Nat.reduceLT, decide_true]
          rw [ek, dl_setN]
          rfl
end Go.Pe.Try
