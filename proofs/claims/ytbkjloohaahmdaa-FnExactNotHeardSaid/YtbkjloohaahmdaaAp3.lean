/- Copies of lists of appeals, walked. -/
import Derived.Test.YtbkjloohaahmdaaAp2
set_option maxRecDepth 100000
set_option maxHeartbeats 4000000
set_option linter.all false
namespace Go.Pe.Try
open Go.Proofs.Try
def zA : D := .st (.cons (.int .i64 0) (.cons (.int .i64 0) (.cons (.int .i64 0) (.cons (.sl true 1 .nil) (.cons (.sl true 1 .nil) (.cons (.int .i64 0) .nil))))))
def oa : Option App → D
  | some x => x.d'
  | none => zA
theorem oa_isV (x : App) : x.d'.isV = true := rfl
theorem oa_size (x : App) : x.d'.size = 6 := rfl
theorem dl_some : ∀ xs : List App, dl oa (xs.map some) = dl App.d' xs
  | [] => rfl
  | x :: xs => by
    have := dl_some xs
    simp only [dl, List.map_cons, ofL] at this ⊢
    rw [this]; rfl
theorem toAppealS_fn (xs : List App) (hlen : xs.length ≤ 1048576) (hx : ∀ x ∈ xs, x.ok0) : Fn prog 9 [.sl false 6 (appsD xs)] (fun rs => rs = [.sl true 6 (appsD xs)]) := by
  refine Fn_of' (fn := f9) (by exact func9) c9 r9 (n := 23) (by rfl) (rv := [.tmp 2]) (by rfl) (by simp) ?_
  unfold m9
  simp only [↓wA, ↓wC, wB, frzBE, frzBS, Nat.reduceEqDiff, Nat.reduceAdd, Nat.reduceSub, reduceIte, reduceCtorEq, Nat.reduceBEq, Nat.reduceLT, decide_true]
  simp only [dl_len, ↓wA, ↓wC, wB, frzBE, frzBS, Nat.reduceEqDiff, Nat.reduceAdd, Nat.reduceSub, reduceIte, reduceCtorEq, Nat.reduceBEq, Nat.reduceLT, decide_true]
  refine onC_i (by omega) ?_
  have hz : ofL (List.replicate (↑xs.length : Int).toNat zA) = dl oa ((xs.map some).take 0 ++ List.replicate (xs.length - 0) none) := by
    rw [show zA = oa none from rfl, dl_replicate]; simp
  have hz' : D.st ((D.int IntKind.i64 0).cons ((D.int IntKind.i64 0).cons ((D.int IntKind.i64 0).cons ((D.sl true 1 .nil).cons ((D.sl true 1 .nil).cons ((D.int IntKind.i64 0).cons D.nil)))))) = zA := rfl
  rw [hz', hz]
  refine exec_loop (fun i : Nat => ⟨[(0, .d (.sl false 6 (appsD xs))), (3, .own 0), (4, .d (.int .i64 i))], [.val (.sl true 6 (dl oa ((xs.map some).take i ++ List.replicate (xs.length - i) none)))]⟩)
    (fun i => i ≤ xs.length) (fun i => xs.length - i) 0 (weak_of [] rfl ⟨⟨rfl, rfl⟩, ⟨rfl, rfl⟩, ⟨rfl, rfl⟩, trivial⟩) (Nat.zero_le _) ?_
  intro i hi
  by_cases hlt : i < xs.length
  · obtain ⟨r, hr⟩ := get_lt hlt
    have hd : decide ((i : Int) < (xs.length : Int)) = true := by simp; omega
    have h0 : (0 : Int) ≤ (i : Int) := by omega
    have hto := toAppeal_fn r (hx r (List.mem_of_getElem? hr))
    have hrs : (xs.map some)[i]? = some (some r) := by rw [List.getElem?_map, hr]; rfl
    have hn : ((xs.map some).take i ++ List.replicate (xs.length - i) (none : Option App))[i]? = some none := by
      rw [List.getElem?_append_right (by simp; omega), List.length_take, List.length_map, Nat.min_eq_left (by omega), Nat.sub_self, show xs.length - i = (xs.length - (i + 1)) + 1 by omega]; rfl
    repeat' (first
        | (simp only [dl_len, dl_nth, hd, h0, Int.toNat_natCast, hr, hn, Option.map_some, onC_true, ↓rd_app, oa_isV, oa_size, App.noOwn, ↓wA, ↓wC, wB, frzBE, frzBS, Nat.reduceEqDiff, Nat.reduceAdd, Nat.reduceSub, reduceIte, reduceCtorEq, Nat.reduceBEq, Nat.reduceLT, decide_true])
        | (refine call_det hto (by simp [argsD, argD, valOf, App.unown]) rfl ?_)
        | (refine onI_bare (by simp only [InR]; omega) ?_)
        | (refine execG_split (fun h => ?_) (fun h => ?_) <;> simp only [h])
        | (refine execC_split (fun h => ?_) (fun h => ?_) <;> (try simp only [h]))
        | (refine onPick_split (fun h => ?_) (fun h => ?_) <;> (try simp only [h])))
    refine onC_i rfl ?_
    refine onI_bare (by simp only [InR]; omega) ?_
    have hfs : (dl oa ((xs.map some).take i ++ List.replicate (xs.length - i) none)).setN i r.d' = dl oa ((xs.map some).take (i + 1) ++ List.replicate (xs.length - (i + 1)) none) := by
      have hl : xs.length = (xs.map (some : App → Option App)).length := by simp
      rw [show r.d' = oa (some r) from rfl, dl_setN]
      conv => lhs; rw [hl]
      conv => rhs; rw [hl]
      rw [fill_step hrs]
    rw [hfs]
    exact ⟨i + 1, weak_of [] rfl ⟨⟨rfl, rfl⟩, ⟨rfl, rfl⟩, ⟨rfl, rfl⟩, trivial⟩, by omega, by omega⟩
  · have hd : decide ((i : Int) < (xs.length : Int)) = false := by simp; omega
    have e : i = xs.length := by omega
    simp only [dl_len, hd, ↓wA, ↓wC, wB, frzBE, frzBS, Nat.reduceEqDiff, Nat.reduceAdd, Nat.reduceSub, reduceIte, reduceCtorEq, Nat.reduceBEq, Nat.reduceLT, decide_true]
    have h1 : (xs.map (some : App → Option App)).take xs.length = xs.map some := List.take_of_length_le (by simp)
    rw [e, h1, Nat.sub_self, List.replicate_zero, List.append_nil, dl_some]
end Go.Pe.Try
