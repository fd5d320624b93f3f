/- Copies of appeals as the program makes them, walked. -/
import Derived.Test.YtpephpnbhlfdaaaAp15
set_option maxRecDepth 100000
set_option maxHeartbeats 4000000
set_option linter.all false
namespace Go.Pe.Try
open Go.Proofs.Try
def om (p : Bool × App) : D := if p.1 then p.2.o else p.2.d'
def mixA (xs : List App) (i : Nat) : List (Bool × App) := (xs.take i).map (fun x => (true, x)) ++ (xs.drop i).map (fun x => (false, x))
theorem mixA_len (xs : List App) (i : Nat) : (mixA xs i).length = xs.length := by simp [mixA]; omega
theorem mixA_get {xs : List App} {i : Nat} {x : App} (hr : xs[i]? = some x) : (mixA xs i)[i]? = some (false, x) := by
  have hi := lt_of_get hr
  rw [mixA, List.getElem?_append_right (by simp; omega), List.length_map, List.length_take, Nat.min_eq_left (by omega), Nat.sub_self, List.getElem?_map, List.getElem?_drop]
  simp [hr]
theorem mixA_set {xs : List App} {i : Nat} {x : App} (hr : xs[i]? = some x) : (mixA xs i).set i (true, x) = mixA xs (i + 1) := by
  have hi := lt_of_get hr
  rw [mixA, List.set_append_right _ _ (by simp; omega), List.length_map, List.length_take, Nat.min_eq_left (by omega), Nat.sub_self, adrop_get hr, List.map_cons, List.set_cons_zero, mixA, take_snoc hr]
  simp
theorem mixA_0 (xs : List App) : dl om (mixA xs 0) = appsD xs := by
  simp only [mixA, List.take_zero, List.map_nil, List.nil_append, List.drop_zero, dl, List.map_map]
  rfl
theorem mixA_n (xs : List App) : dl om (mixA xs xs.length) = dl App.o xs := by
  simp only [mixA, List.take_length, List.drop_length, List.map_nil, List.append_nil, dl, List.map_map]
  rfl
theorem App.dp (x : App) : x.d' = x.p (.sl false 1 (dl iD x.a)) (.sl false 1 (dl iD x.h)) := rfl
theorem copyAppeals_fn (xs : List App) (hlen : xs.length ≤ 1048576) (hx : ∀ x ∈ xs, x.ok0) : Fn prog 27 [.sl false 6 (appsD xs)] (fun rs => rs = [.sl true 6 (dl App.o xs)]) := by
  have hC := cloneA_fn xs hlen
  refine Fn_of' (fn := f27) (by exact func27) c27 r27 (n := 34) (by rfl) (rv := [.tmp 2]) (by rfl) (by simp) ?_
  unfold m27
  simp only [dl_len, ↓wA, ↓wC, wB, frzBE, frzBS, Nat.reduceEqDiff, Nat.reduceAdd, Nat.reduceSub, reduceIte, reduceCtorEq, Nat.reduceBEq, Nat.reduceLT, decide_true]
  refine call_det hC rfl rfl ?_
  simp only [apps_noOwn, dl_len, ↓wA, ↓wC, wB, frzBE, frzBS, Nat.reduceEqDiff, Nat.reduceAdd, Nat.reduceSub, reduceIte, reduceCtorEq, Nat.reduceBEq, Nat.reduceLT, decide_true]
  refine exec_range xs.length (fun i : Nat => ⟨[(3, .own 0), (8, .d (.int .i64 xs.length)), (9, .d (.int .i64 i))], [.val (.sl true 6 (dl om (mixA xs i)))]⟩) (fun _ => True) ?_ trivial ?_ ?_
  · rw [mixA_0]; exact (weak_of _ rfl ⟨⟨rfl, rfl⟩, ⟨rfl, rfl⟩, ⟨rfl, rfl⟩, trivial⟩)
  · intro i hlt _ hd h0
    obtain ⟨x, hr⟩ := get_lt hlt
    have hxo := hx x (List.mem_of_getElem? hr)
    have h1 := cloneI_fn x.a hxo.1
    have h2 := cloneI_fn x.h hxo.2
    have hg := mixA_get hr
    have hom : om (false, x) = x.p (.sl false 1 (dl iD x.a)) (.sl false 1 (dl iD x.h)) := rfl
    have hgs : ∀ (y : D), ((dl om (mixA xs i)).setN i y).nth i = some y := fun y => by rw [setN_nth, if_pos rfl, dl_nth, hg]; rfl
    repeat' (first
        | (simp only [dl_len, mixA_len, hd, h0, dl_nth, Int.toNat_natCast, hg, hom, hgs, setN_setN, Option.map_some, onC_true, ints_noOwn, doff_p3, doff_p4, dget_p3, dget_p4, dset_p3, dset_p4, ↓wA, ↓wC, wB, frzBE, frzBS, Nat.reduceEqDiff, Nat.reduceAdd, Nat.reduceSub, reduceIte, reduceCtorEq, Nat.reduceBEq, Nat.reduceLT, decide_true])
        | (refine onJ_q ?_)
        | (refine call_det h1 rfl rfl ?_)
        | (refine call_det h2 rfl rfl ?_)
        | (refine onI_bare (by simp only [InR]; omega) ?_)
        | (refine execG_split (fun h => ?_) (fun h => ?_) <;> simp only [h])
        | (refine execC_split (fun h => ?_) (fun h => ?_) <;> (try simp only [h]))
        | (refine onPick_split (fun h => ?_) (fun h => ?_) <;> (try simp only [h])))
    have e : x.p (.sl true 1 (dl iD x.a)) (.sl true 1 (dl iD x.h)) = om (true, x) := rfl
    rw [e, dl_setN, mixA_set hr]
    exact ⟨i + 1, (weak_of _ rfl ⟨⟨rfl, rfl⟩, ⟨rfl, rfl⟩, ⟨rfl, rfl⟩, trivial⟩), by omega, by omega⟩
  · intro _ hd
    simp only [hd, ↓wA, ↓wC, wB, frzBE, frzBS, Nat.reduceEqDiff, Nat.reduceAdd, Nat.reduceSub, reduceIte, reduceCtorEq, Nat.reduceBEq, Nat.reduceLT, decide_true]
    rw [mixA_n]
end Go.Pe.Try
