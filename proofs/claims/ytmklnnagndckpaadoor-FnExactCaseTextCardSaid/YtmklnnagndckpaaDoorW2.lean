/- Texts of cases (strings.Join, decimals, caseText, l25Text), walked -/
import Derived.Test.YtmklnnagndckpaaDoorW1
set_option maxRecDepth 100000
set_option maxHeartbeats 4000000
set_option linter.all false
namespace Go.Pe.Tryd
open Go.Proofs.Tryd
theorem strs_rep {w : World} {M : Nat → Prop} : ∀ (L : List (List UInt8)) (ds : List Value) (fps : List Nat), (dl D.str L).rep w M ds fps → ds = L.map (fun s => Value.string ⟨s.toArray⟩)
  | [], ds, fps, h => h.1
  | s :: L, ds, fps, h => by
    obtain ⟨c1, c2, f1, f2, rfl, _, h1, h2⟩ := h
    obtain ⟨rfl, _⟩ := h1
    rw [strs_rep L c2 f2 h2]; rfl
theorem join_fn (L : List (List UInt8)) (sep : List UInt8) (hN : L.length ≤ 1048576) (hlen : (Lib.join L sep).length ≤ 140737488355328) : Fn prog 93 [.sl false 1 (dl D.str L), .str sep] (fun rs => rs = [.str (Lib.join L sep)]) := by
  intro M vs w hM hG hv
  obtain ⟨cs, us, f1, f2, rfl, _, ⟨_, a, c, ds, fps, rfl, hle, hds, hor⟩, ⟨cs2, us2, f3, f4, rfl, _, ⟨rfl, _⟩, rfl, _⟩⟩ := hv
  have hd := strs_rep L ds fps hds
  have hl : (dl D.str L).len = L.length := dl_len L
  have e : (L.map fun s : List UInt8 => (⟨s.toArray⟩ : ByteArray)).map (·.data.toList) = L := by
    rw [List.map_map]; exact (List.map_congr_left (fun s _ => by simp)).trans (List.map_id _)
  have e2 : (⟨sep.toArray⟩ : ByteArray).data.toList = sep := by simp
  have main : Calls prog.P 93 #[.slice a (dl D.str L).len c, .string ⟨sep.toArray⟩] w fun e w' => e = .returned (.string ⟨(Lib.join L sep).toArray⟩) ∧ Ext w w' := by
    cases L with
    | nil => exact (Go.Proofs.Tryd.strings_Join_none a c ⟨sep.toArray⟩ w).mono (by rintro e w' ⟨rfl, rfl⟩; exact ⟨rfl, Ext.refl _⟩)
    | cons x r =>
      rw [hl] at hle hor ⊢
      simp only [Bool.false_eq_true, if_false] at hor
      obtain ⟨rfl, _, h0 | ⟨ad, rfl, hh⟩⟩ := hor
      · simp at h0
      · rcases hh with h | ⟨hlt, hnM, hcell⟩
        · rw [h] at hd; simp at hd
        · have h0 := hcell 0 _ (by rw [hd]; rfl)
          obtain ⟨bk, o, sp⟩ := ad
          cases sp with
          | some s =>
            simp only [World.cell?, Addr.add, if_true] at h0
            split at h0
            · simp at h0
            · cases h0
          | none =>
            have hJ := Go.Proofs.Tryd.strings_Join bk o c ((x :: r).map fun s : List UInt8 => (⟨s.toArray⟩ : ByteArray)) ⟨sep.toArray⟩ w (fun j y hy => by
              rw [List.getElem?_map] at hy
              obtain ⟨s, hs, rfl⟩ := Option.map_eq_some_iff.1 hy
              have := hcell j (.string ⟨s.toArray⟩) (by rw [hd, List.getElem?_map, hs]; rfl)
              unfold Addr.add at this
              split at this
              · rename_i hj; subst hj; exact this
              · exact this) hlt (by rw [List.length_map]; omega) (by rw [List.length_map]; exact hle) (by rw [e, e2]; exact hlen)
            rw [e, e2, List.length_map] at hJ
            exact hJ
  refine Calls.mono main ?_
  rintro e w' ⟨rfl, hx⟩
  exact ⟨[.str (Lib.join L sep)], [.string ⟨(Lib.join L sep).toArray⟩], [], rfl, rfl, plainVs_out rfl, List.nodup_nil, (fun b hb => by cases hb), hx⟩
theorem joinTail_len (sep : List UInt8) (k : Nat) : ∀ r : List (List UInt8), (∀ x ∈ r, x.length ≤ k) → (Lib.joinTail sep r).length ≤ r.length * (sep.length + k)
  | [], _ => by simp [Lib.joinTail]
  | x :: r, h => by
    have h1 := joinTail_len sep k r (fun y hy => h y (List.mem_cons_of_mem _ hy))
    have h2 := h x List.mem_cons_self
    have : Lib.joinTail sep (x :: r) = sep ++ x ++ Lib.joinTail sep r := rfl
    rw [this]
    simp only [List.length_append, List.length_cons, Nat.add_mul, Nat.one_mul]
    omega
theorem join_len (sep : List UInt8) (k : Nat) : ∀ r : List (List UInt8), (∀ x ∈ r, x.length ≤ k) → (Lib.join r sep).length ≤ r.length * (sep.length + k)
  | [], _ => by simp [Lib.join]
  | x :: r, h => by
    have h1 := joinTail_len sep k r (fun y hy => h y (List.mem_cons_of_mem _ hy))
    have h2 := h x List.mem_cons_self
    rw [Lib.join_cons]
    simp only [List.length_append, List.length_cons, Nat.add_mul, Nat.one_mul]
    omega
theorem itoas_len {v : List Int} (hv : ∀ n ∈ v, InR .i64 n) : ∀ x ∈ v.map Lib.itoa, x.length ≤ 21 := by
  intro x hx
  obtain ⟨n, hn, rfl⟩ := List.mem_map.1 hx
  exact itoa_le n (hv n hn)
theorem decimals_fn (v : List Int) (sep : List UInt8) (hv : ∀ n ∈ v, InR .i64 n) (hl : v.length ≤ 1000) (hs : sep.length ≤ 1000) : Fn prog 79 [.sl false 1 (dl iD v), .str sep] (fun rs => rs = [.str (Lib.join (v.map Lib.itoa) sep)]) := by
  have hL := join_len sep 21 (v.map Lib.itoa) (itoas_len hv)
  have hb : (v.map Lib.itoa).length * (sep.length + 21) ≤ 1000 * 1021 := Nat.mul_le_mul (by simpa using hl) (by omega)
  have hJ := join_fn (v.map Lib.itoa) sep (by simp; omega) (by omega)
  refine Fn_of' (fn := f79) (by exact func79) c79 r79 (n := 27) (by rfl) (rv := [.tmp 4]) (by rfl) (by simp) ?_
  unfold m79
  simp only [↓wA, ↓wC, wB, frzBE, frzBS, Nat.reduceEqDiff, Nat.reduceAdd, Nat.reduceSub, reduceIte, reduceCtorEq, Nat.reduceBEq, Nat.reduceLT, decide_true]
  simp only [dl_len, ↓wA, ↓wC, wB, frzBE, frzBS, Nat.reduceEqDiff, Nat.reduceAdd, Nat.reduceSub, reduceIte, reduceCtorEq, Nat.reduceBEq, Nat.reduceLT, decide_true]
  refine onC_i (by omega) ?_
  have hz : ofL (List.replicate (↑v.length : Int).toNat (D.str [])) = dl D.str ((v.map Lib.itoa).take 0 ++ List.replicate (v.length - 0) []) := by
    rw [dl_replicate]; simp
  rw [hz]
  refine exec_range v.length (fun i : Nat => ⟨[(1, .d (.str sep)), (5, .own 0), (11, .d (.sl false 1 (dl iD v))), (12, .d (.int .i64 v.length)), (13, .d (.int .i64 i))], [.val (.sl true 1 (dl D.str ((v.map Lib.itoa).take i ++ List.replicate (v.length - i) [])))]⟩) (fun _ => True) (weak_of _ rfl ⟨⟨rfl, rfl⟩, ⟨rfl, rfl⟩, ⟨rfl, rfl⟩, ⟨rfl, rfl⟩, ⟨rfl, rfl⟩, trivial⟩) trivial ?_ ?_
  · intro i hlt _ hd h0
    obtain ⟨n, hr⟩ := get_lt hlt
    have hrs : (v.map Lib.itoa)[i]? = some (Lib.itoa n) := by rw [List.getElem?_map, hr]; rfl
    have hD := decimal_fn n (hv n (List.mem_of_getElem? hr))
    have hn : ((v.map Lib.itoa).take i ++ List.replicate (v.length - i) ([] : List UInt8))[i]? = some [] := by
      rw [List.getElem?_append_right (by simp; omega), List.length_take, List.length_map, Nat.min_eq_left (by omega), Nat.sub_self, show v.length - i = (v.length - (i + 1)) + 1 by omega]; rfl
    have hfs : (dl D.str ((v.map Lib.itoa).take i ++ List.replicate (v.length - i) ([] : List UInt8))).setN i (D.str (Lib.itoa n)) = dl D.str ((v.map Lib.itoa).take (i + 1) ++ List.replicate (v.length - (i + 1)) []) := by
      have hl : v.length = (v.map Lib.itoa).length := by simp
      rw [dl_setN]
      conv => lhs; rw [hl]
      conv => rhs; rw [hl]
      rw [fill_step hrs]
    repeat' (first
        | (simp only [dl_len, dl_nth, hd, h0, Int.toNat_natCast, hr, hn, hfs, Option.map_some, onC_true, rd_iD, iD, ↓wA, ↓wC, wB, frzBE, frzBS, Nat.reduceEqDiff, Nat.reduceAdd, Nat.reduceSub, reduceIte, reduceCtorEq, Nat.reduceBEq, Nat.reduceLT, decide_true])
        | (refine call_det hD rfl rfl ?_)
        | (with_reducible refine onI_bare ?_ ?_; focus (simp only [InR]; omega))
        | (refine execG_split (fun h => ?_) (fun h => ?_) <;> simp only [h])
        | (refine execC_split (fun h => ?_) (fun h => ?_) <;> (try simp only [h]))
        | (refine onPick_split (fun h => ?_) (fun h => ?_) <;> (try simp only [h])))
    all_goals exact ⟨i + 1, (weak_of _ rfl ⟨⟨rfl, rfl⟩, ⟨rfl, rfl⟩, ⟨rfl, rfl⟩, ⟨rfl, rfl⟩, ⟨rfl, rfl⟩, trivial⟩), by omega, by omega⟩
  · intro _ hd
    have h1 : (v.map Lib.itoa).take v.length = v.map Lib.itoa := List.take_of_length_le (by simp)
    rw [h1, Nat.sub_self, List.replicate_zero, List.append_nil]
    repeat' (first
        | (simp only [dl_len, hd, ↓wA, ↓wC, wB, frzBE, frzBS, Nat.reduceEqDiff, Nat.reduceAdd, Nat.reduceSub, reduceIte, reduceCtorEq, Nat.reduceBEq, Nat.reduceLT, decide_true])
        | (refine call_det hJ (by simp [argsD, argD, valOf, D.unown, strs_unown]) rfl ?_)
        | (refine execG_split (fun h => ?_) (fun h => ?_) <;> simp only [h])
        | (refine execC_split (fun h => ?_) (fun h => ?_) <;> (try simp only [h]))
        | (refine onPick_split (fun h => ?_) (fun h => ?_) <;> (try simp only [h])))
    all_goals trace_state
/-- the text of a case's holds. -/
def heldT (v : List Int) : List UInt8 := if v = [] then [] else [32, 104, 101, 108, 100, 32] ++ Lib.join (v.map Lib.itoa) [44]
theorem heldT_snoc (u : List Int) (n : Int) : heldT (u ++ [n]) = heldT u ++ (if u = [] then [32, 104, 101, 108, 100, 32] else [44]) ++ Lib.itoa n := by
  cases u with
  | nil => simp [heldT, Lib.join_one]
  | cons x r =>
    have h1 : Lib.joinTail [44] (r.map Lib.itoa ++ [Lib.itoa n]) = Lib.joinTail [44] (r.map Lib.itoa) ++ ([44] ++ Lib.itoa n) := by simp [Lib.joinTail]
    simp only [heldT, List.cons_append, if_neg (List.cons_ne_nil _ _), List.map_cons, List.map_append, List.map_nil, Lib.join_cons, h1, List.append_assoc]
theorem heldT_at {v : List Int} {i : Nat} {n : Int} (hr : v[i]? = some n) : heldT (v.take (i + 1)) = heldT (v.take i) ++ (if i = 0 then [32, 104, 101, 108, 100, 32] else [44]) ++ Lib.itoa n := by
  have hi := lt_of_get hr
  rw [take_get hr, heldT_snoc]
  by_cases h : i = 0
  · subst h; simp
  · have : v.take i ≠ [] := by
      intro h'
      have := congrArg List.length h'
      rw [List.length_take, Nat.min_eq_left (by omega)] at this
      exact h this
    rw [if_neg this, if_neg h]
theorem heldT_len {v : List Int} (hv : ∀ n ∈ v, InR .i64 n) : (heldT v).length ≤ 6 + v.length * 22 := by
  unfold heldT
  split
  · simp
  · have := join_len [44] 21 (v.map Lib.itoa) (itoas_len hv)
    simp only [List.length_append, List.length_map, List.length_cons, List.length_nil] at this ⊢
    omega
def word (a : Int) : List UInt8 := if a = 1 then [107, 101, 101, 112] else if a = 2 then [116, 114, 97, 110, 115, 102, 101, 114] else [100, 101, 115, 116, 114, 111, 121]
def txt (x : Cs) : List UInt8 := word x.a ++ [32, 100, 117, 101, 32] ++ Lib.itoa x.d ++ heldT x.h
/-- what of a valid case its text needs. -/
theorem case_facts {x : Cs} (h : caseOK x = true) : (x.a = 1 ∨ x.a = 2 ∨ x.a = 3) ∧ (0 ≤ x.i ∧ InR .i64 x.i) ∧ (0 ≤ x.d ∧ InR .i64 x.d) ∧ x.h.length ≤ 5 ∧ ∀ n ∈ x.h, 0 ≤ n ∧ InR .i64 n := by
  simp only [caseOK, Bool.and_eq_true, within, decide_eq_true_eq, List.all_eq_true] at h
  obtain ⟨⟨⟨⟨h1, h2⟩, h3⟩, h4⟩, h5, _⟩ := h
  refine ⟨by omega, ⟨by omega, by simp only [InR]; omega⟩, ⟨by omega, by simp only [InR]; omega⟩, by omega, fun n hn => ?_⟩
  have := h5 n hn
  exact ⟨by omega, by simp only [InR]; omega⟩
theorem word_len (a : Int) : (word a).length ≤ 8 := by
  unfold word
  split
  · simp
  · split <;> simp
theorem one_less : ((1 : Int) - 1).toNat = 0 := rfl
theorem two_less : ((2 : Int) - 1).toNat = 1 := rfl
theorem three_less : ((3 : Int) - 1).toNat = 2 := rfl
theorem zero_nat : decide ((0 : Int) < ((0 : Nat) : Int)) = false := rfl
theorem one_nat : ((1 : Int)).toNat = 1 := rfl
theorem two_nat : ((2 : Int)).toNat = 2 := rfl
theorem three_nat : ((3 : Int)).toNat = 3 := rfl
theorem caseText_fn (x : Cs) (h : caseOK x = true) : Fn prog 54 [x.s] (fun rs => rs = [.str (txt x)]) := by
  obtain ⟨hA, _, h3, h4, h5⟩ := case_facts h
  have hD := decimal_fn x.d h3.2
  have hH := decimals_fn x.h [44] (fun n hn => (h5 n hn).2) (by omega) (by simp)
  have hT := heldT_len (v := x.h) (fun n hn => (h5 n hn).2)
  have hi := itoa_le x.d h3.2
  have hJl := join_len [44] 21 (x.h.map Lib.itoa) (itoas_len (fun n hn => (h5 n hn).2))
  simp only [List.length_map, List.length_cons, List.length_nil] at hJl
  obtain ⟨xi, a, d, hs⟩ := x
  simp only at hA h3 h4 h5 hD hH hT hi hJl
  unfold txt
  rcases hA with rfl | rfl | rfl
  all_goals
    cases hs with
    | nil =>
      refine Fn_of' (fn := f54) (by exact func54) c54 r54 (n := 26) (by rfl) (rv := [.tmp 2]) (by rfl) (by simp) ?_
      unfold m54
      simp only [Cs.s, Cs.p]
      repeat' (first
          | (simp only [onC_true, ints_noOwn, zero_nat, one_less, two_less, three_less, dl_len, ↓wA, ↓wC, wB, frzBE, frzBS, Nat.reduceEqDiff, Nat.reduceAdd, Nat.reduceSub, reduceIte, reduceCtorEq, Nat.reduceBEq, Nat.reduceLT, decide_true])
          | (refine call_det hD rfl rfl ?_)
          | (refine onJ_q ?_)
          | (with_reducible refine And.intro ?_ ?_)
          | (with_reducible refine onC_i ?_ ?_; focus ((try simp only [List.length_append, List.length_cons, List.length_nil]); omega))
          | (with_reducible refine onI_bare ?_ ?_; focus (simp only [InR]; omega))
          | (refine execG_split (fun h => ?_) (fun h => ?_) <;> simp only [h])
          | (refine execC_split (fun h => ?_) (fun h => ?_) <;> (try simp only [h]))
          | (refine onPick_split (fun h => ?_) (fun h => ?_) <;> (try simp only [h])))
      all_goals (simp [word, heldT]; done)
    | cons n r =>
      have hd0 : decide ((0 : Int) < ((n :: r).length : Int)) = true := decide_eq_true (by simp only [List.length_cons]; omega)
      have hd1 : decide (((n :: r).length : Int) > 0) = true := hd0
      have hT2 : heldT (n :: r) = [32, 104, 101, 108, 100, 32] ++ Lib.join ((n :: r).map Lib.itoa) [44] := rfl
      generalize n :: r = hs at *
      refine Fn_of' (fn := f54) (by exact func54) c54 r54 (n := 26) (by rfl) (rv := [.tmp 2]) (by rfl) (by simp) ?_
      unfold m54
      simp only [Cs.s, Cs.p]
      repeat' (first
          | (simp only [onC_true, ints_noOwn, one_less, two_less, three_less, dl_len, hd0, hd1, ↓wA, ↓wC, wB, frzBE, frzBS, Nat.reduceEqDiff, Nat.reduceAdd, Nat.reduceSub, reduceIte, reduceCtorEq, Nat.reduceBEq, Nat.reduceLT, decide_true])
          | (refine call_det hD rfl rfl ?_)
          | (refine call_det hH rfl rfl ?_)
          | (refine onJ_q ?_)
          | (with_reducible refine And.intro ?_ ?_)
          | (with_reducible refine onC_i ?_ ?_; focus ((try simp only [List.length_append, List.length_cons, List.length_nil]); omega))
          | (with_reducible refine onI_bare ?_ ?_; focus (simp only [InR]; omega))
          | (refine execG_split (fun h => ?_) (fun h => ?_) <;> simp only [h])
          | (refine execC_split (fun h => ?_) (fun h => ?_) <;> (try simp only [h]))
          | (refine onPick_split (fun h => ?_) (fun h => ?_) <;> (try simp only [h])))
      all_goals (simp [word, hT2]; done)
def pre (a : Int) : List UInt8 := word a ++ [32, 100, 117, 101, 32]
theorem pre1 (t : List UInt8) : (107 :: 101 :: 101 :: 112 :: 32 :: 100 :: 117 :: 101 :: 32 :: t : List UInt8) = pre 1 ++ t := rfl
theorem pre2 (t : List UInt8) : (116 :: 114 :: 97 :: 110 :: 115 :: 102 :: 101 :: 114 :: 32 :: 100 :: 117 :: 101 :: 32 :: t : List UInt8) = pre 2 ++ t := rfl
theorem pre3 (t : List UInt8) : (100 :: 101 :: 115 :: 116 :: 114 :: 111 :: 121 :: 32 :: 100 :: 117 :: 101 :: 32 :: t : List UInt8) = pre 3 ++ t := rfl
theorem txt_pre (x : Cs) : txt x = pre x.a ++ (Lib.itoa x.d ++ heldT x.h) := by simp [txt, pre]
theorem pre_len (a : Int) : (pre a).length ≤ 13 := by
  have := word_len a
  simp only [pre, List.length_append, List.length_cons, List.length_nil]
  omega
theorem heldT_0 (v : List Int) : heldT (v.take 0) = [] := rfl
theorem heldT_1 {v : List Int} {i : Nat} {n : Int} (hr : v[i]? = some n) (h : i = 0) : heldT (v.take (i + 1)) = heldT (v.take i) ++ (32 :: 104 :: 101 :: 108 :: 100 :: 32 :: Lib.itoa n) := by
  rw [heldT_at hr, if_pos h, List.append_assoc]; rfl
theorem heldT_2 {v : List Int} {i : Nat} {n : Int} (hr : v[i]? = some n) (h : ¬ i = 0) : heldT (v.take (i + 1)) = heldT (v.take i) ++ (44 :: Lib.itoa n) := by
  rw [heldT_at hr, if_neg h, List.append_assoc]; rfl
theorem l25Text_fn (x : Cs) (h : caseOK x = true) : Fn prog 52 [x.s] (fun rs => rs = [.str (txt x)]) := by
  obtain ⟨hA, _, h3, h4, h5⟩ := case_facts h
  have hD := l1Num_fn x.d h3.1 h3.2
  have hi := itoa_le x.d h3.2
  rw [txt_pre]
  obtain ⟨xi, a, d, hs⟩ := x
  simp only at hA h3 h4 h5 hD hi ⊢
  rcases hA with rfl | rfl | rfl
  · skip
    refine Fn_of' (fn := f52) (by exact func52) c52 r52 (n := 37) (by rfl) (rv := [.tmp 2]) (by rfl) (by simp) ?_
    unfold m52
    simp only [Cs.s, Cs.p]
    repeat' (first
        | (simp only [onC_true, ints_noOwn, zero_nat, one_nat, two_nat, three_nat, ↓wA, ↓wC, wB, frzBE, frzBS, Nat.reduceEqDiff, Nat.reduceAdd, Nat.reduceSub, reduceIte, reduceCtorEq, Nat.reduceBEq, Nat.reduceLT, decide_true])
        | (refine call_det hD rfl rfl ?_)
        | (refine onJ_q ?_)
        | (with_reducible refine And.intro ?_ ?_)
        | (with_reducible refine onC_i ?_ ?_; focus ((try simp only [List.length_append, List.length_cons, List.length_nil]); omega))
        | (with_reducible refine onI_bare ?_ ?_; focus (simp only [InR]; omega))
        | (refine execG_split (fun h => ?_) (fun h => ?_) <;> simp only [h])
        | (refine execC_split (fun h => ?_) (fun h => ?_) <;> (try simp only [h]))
        | (refine onPick_split (fun h => ?_) (fun h => ?_) <;> (try simp only [h])))
    all_goals simp only [pre1, pre2, pre3]
    all_goals have hpl := pre_len 1
    all_goals refine exec_range hs.length (fun i : Nat => ⟨[(1, .ptr 0 0 []), (3, .d (.str (pre 1 ++ (Lib.itoa d ++ heldT (hs.take i))))), (4, .d (.int .i64 i))], [.box (.st (.cons (.int .i64 xi) (.cons (.int .i64 1) (.cons (.int .i64 d) (.cons (.sl false 1 (dl iD hs)) .nil)))))]⟩) (fun _ => True) (by rw [heldT_0, List.append_nil]; exact (weak_of _ rfl ⟨⟨rfl, rfl⟩, ⟨rfl, rfl⟩, ⟨rfl, rfl⟩, trivial⟩)) trivial ?_ ?_
    all_goals first
      | (intro _ hd
         repeat' (first
             | (simp only [onC_true, ints_noOwn, dl_len, hd, List.take_length, ↓wA, ↓wC, wB, frzBE, frzBS, Nat.reduceEqDiff, Nat.reduceAdd, Nat.reduceSub, reduceIte, reduceCtorEq, Nat.reduceBEq, Nat.reduceLT, decide_true])
             | (refine execG_split (fun h => ?_) (fun h => ?_) <;> simp only [h])
             | (refine execC_split (fun h => ?_) (fun h => ?_) <;> (try simp only [h]))
             | (refine onPick_split (fun h => ?_) (fun h => ?_) <;> (try simp only [h])))
         done)
      | skip
    all_goals
      intro i hlt _ hd h0
      obtain ⟨n, hr⟩ := get_lt hlt
      have hn5 := h5 n (List.mem_of_getElem? hr)
      have hN := l1Num_fn n hn5.1 hn5.2
      have hnl := itoa_le n hn5.2
      have hTl := heldT_len (v := hs.take i) (fun m hm => (h5 m (List.mem_of_mem_take hm)).2)
      rw [List.length_take, Nat.min_eq_left (by omega)] at hTl
      by_cases hi0 : i = 0
      · have hq : decide ((i : Int) = 0) = true := decide_eq_true (by omega)
        have hx := heldT_1 hr hi0
        repeat' (first
            | (simp only [onC_true, ints_noOwn, dl_len, dl_nth, hd, h0, hq, Int.toNat_natCast, hr, Option.map_some, rd_iD, iD, ↓wA, ↓wC, wB, frzBE, frzBS, Nat.reduceEqDiff, Nat.reduceAdd, Nat.reduceSub, reduceIte, reduceCtorEq, Nat.reduceBEq, Nat.reduceLT, decide_true])
            | (refine call_det hN rfl rfl ?_)
            | (with_reducible refine onC_i ?_ ?_; focus ((try simp only [List.length_append, List.length_cons, List.length_nil]); omega))
            | (with_reducible refine onI_bare ?_ ?_; focus (simp only [InR]; omega))
            | (refine execG_split (fun h => ?_) (fun h => ?_) <;> simp only [h])
            | (refine execC_split (fun h => ?_) (fun h => ?_) <;> (try simp only [h]))
            | (refine onPick_split (fun h => ?_) (fun h => ?_) <;> (try simp only [h])))
        all_goals (refine ⟨i + 1, ?_, by omega, by omega⟩; rw [hx]; (try simp only [List.append_assoc, List.cons_append, List.nil_append]); exact (weak_of _ rfl ⟨⟨rfl, rfl⟩, ⟨rfl, rfl⟩, ⟨rfl, rfl⟩, trivial⟩))
      · have hq : decide ((i : Int) = 0) = false := decide_eq_false (by omega)
        have hx := heldT_2 hr hi0
        repeat' (first
            | (simp only [onC_true, ints_noOwn, dl_len, dl_nth, hd, h0, hq, Int.toNat_natCast, hr, Option.map_some, rd_iD, iD, ↓wA, ↓wC, wB, frzBE, frzBS, Nat.reduceEqDiff, Nat.reduceAdd, Nat.reduceSub, reduceIte, reduceCtorEq, Nat.reduceBEq, Nat.reduceLT, decide_true])
            | (refine call_det hN rfl rfl ?_)
            | (with_reducible refine onC_i ?_ ?_; focus ((try simp only [List.length_append, List.length_cons, List.length_nil]); omega))
            | (with_reducible refine onI_bare ?_ ?_; focus (simp only [InR]; omega))
            | (refine execG_split (fun h => ?_) (fun h => ?_) <;> simp only [h])
            | (refine execC_split (fun h => ?_) (fun h => ?_) <;> (try simp only [h]))
            | (refine onPick_split (fun h => ?_) (fun h => ?_) <;> (try simp only [h])))
        all_goals (refine ⟨i + 1, ?_, by omega, by omega⟩; rw [hx]; (try simp only [List.append_assoc, List.cons_append, List.nil_append]); exact (weak_of _ rfl ⟨⟨rfl, rfl⟩, ⟨rfl, rfl⟩, ⟨rfl, rfl⟩, trivial⟩))
  · skip
    refine Fn_of' (fn := f52) (by exact func52) c52 r52 (n := 37) (by rfl) (rv := [.tmp 2]) (by rfl) (by simp) ?_
    unfold m52
    simp only [Cs.s, Cs.p]
    repeat' (first
        | (simp only [onC_true, ints_noOwn, zero_nat, one_nat, two_nat, three_nat, ↓wA, ↓wC, wB, frzBE, frzBS, Nat.reduceEqDiff, Nat.reduceAdd, Nat.reduceSub, reduceIte, reduceCtorEq, Nat.reduceBEq, Nat.reduceLT, decide_true])
        | (refine call_det hD rfl rfl ?_)
        | (refine onJ_q ?_)
        | (with_reducible refine And.intro ?_ ?_)
        | (with_reducible refine onC_i ?_ ?_; focus ((try simp only [List.length_append, List.length_cons, List.length_nil]); omega))
        | (with_reducible refine onI_bare ?_ ?_; focus (simp only [InR]; omega))
        | (refine execG_split (fun h => ?_) (fun h => ?_) <;> simp only [h])
        | (refine execC_split (fun h => ?_) (fun h => ?_) <;> (try simp only [h]))
        | (refine onPick_split (fun h => ?_) (fun h => ?_) <;> (try simp only [h])))
    all_goals simp only [pre1, pre2, pre3]
    all_goals have hpl := pre_len 2
    all_goals refine exec_range hs.length (fun i : Nat => ⟨[(1, .ptr 0 0 []), (3, .d (.str (pre 2 ++ (Lib.itoa d ++ heldT (hs.take i))))), (4, .d (.int .i64 i))], [.box (.st (.cons (.int .i64 xi) (.cons (.int .i64 2) (.cons (.int .i64 d) (.cons (.sl false 1 (dl iD hs)) .nil)))))]⟩) (fun _ => True) (by rw [heldT_0, List.append_nil]; exact (weak_of _ rfl ⟨⟨rfl, rfl⟩, ⟨rfl, rfl⟩, ⟨rfl, rfl⟩, trivial⟩)) trivial ?_ ?_
    all_goals first
      | (intro _ hd
         repeat' (first
             | (simp only [onC_true, ints_noOwn, dl_len, hd, List.take_length, ↓wA, ↓wC, wB, frzBE, frzBS, Nat.reduceEqDiff, Nat.reduceAdd, Nat.reduceSub, reduceIte, reduceCtorEq, Nat.reduceBEq, Nat.reduceLT, decide_true])
             | (refine execG_split (fun h => ?_) (fun h => ?_) <;> simp only [h])
             | (refine execC_split (fun h => ?_) (fun h => ?_) <;> (try simp only [h]))
             | (refine onPick_split (fun h => ?_) (fun h => ?_) <;> (try simp only [h])))
         done)
      | skip
    all_goals
      intro i hlt _ hd h0
      obtain ⟨n, hr⟩ := get_lt hlt
      have hn5 := h5 n (List.mem_of_getElem? hr)
      have hN := l1Num_fn n hn5.1 hn5.2
      have hnl := itoa_le n hn5.2
      have hTl := heldT_len (v := hs.take i) (fun m hm => (h5 m (List.mem_of_mem_take hm)).2)
      rw [List.length_take, Nat.min_eq_left (by omega)] at hTl
      by_cases hi0 : i = 0
      · have hq : decide ((i : Int) = 0) = true := decide_eq_true (by omega)
        have hx := heldT_1 hr hi0
        repeat' (first
            | (simp only [onC_true, ints_noOwn, dl_len, dl_nth, hd, h0, hq, Int.toNat_natCast, hr, Option.map_some, rd_iD, iD, ↓wA, ↓wC, wB, frzBE, frzBS, Nat.reduceEqDiff, Nat.reduceAdd, Nat.reduceSub, reduceIte, reduceCtorEq, Nat.reduceBEq, Nat.reduceLT, decide_true])
            | (refine call_det hN rfl rfl ?_)
            | (with_reducible refine onC_i ?_ ?_; focus ((try simp only [List.length_append, List.length_cons, List.length_nil]); omega))
            | (with_reducible refine onI_bare ?_ ?_; focus (simp only [InR]; omega))
            | (refine execG_split (fun h => ?_) (fun h => ?_) <;> simp only [h])
            | (refine execC_split (fun h => ?_) (fun h => ?_) <;> (try simp only [h]))
            | (refine onPick_split (fun h => ?_) (fun h => ?_) <;> (try simp only [h])))
        all_goals (refine ⟨i + 1, ?_, by omega, by omega⟩; rw [hx]; (try simp only [List.append_assoc, List.cons_append, List.nil_append]); exact (weak_of _ rfl ⟨⟨rfl, rfl⟩, ⟨rfl, rfl⟩, ⟨rfl, rfl⟩, trivial⟩))
      · have hq : decide ((i : Int) = 0) = false := decide_eq_false (by omega)
        have hx := heldT_2 hr hi0
        repeat' (first
            | (simp only [onC_true, ints_noOwn, dl_len, dl_nth, hd, h0, hq, Int.toNat_natCast, hr, Option.map_some, rd_iD, iD, ↓wA, ↓wC, wB, frzBE, frzBS, Nat.reduceEqDiff, Nat.reduceAdd, Nat.reduceSub, reduceIte, reduceCtorEq, Nat.reduceBEq, Nat.reduceLT, decide_true])
            | (refine call_det hN rfl rfl ?_)
            | (with_reducible refine onC_i ?_ ?_; focus ((try simp only [List.length_append, List.length_cons, List.length_nil]); omega))
            | (with_reducible refine onI_bare ?_ ?_; focus (simp only [InR]; omega))
            | (refine execG_split (fun h => ?_) (fun h => ?_) <;> simp only [h])
            | (refine execC_split (fun h => ?_) (fun h => ?_) <;> (try simp only [h]))
            | (refine onPick_split (fun h => ?_) (fun h => ?_) <;> (try simp only [h])))
        all_goals (refine ⟨i + 1, ?_, by omega, by omega⟩; rw [hx]; (try simp only [List.append_assoc, List.cons_append, List.nil_append]); exact (weak_of _ rfl ⟨⟨rfl, rfl⟩, ⟨rfl, rfl⟩, ⟨rfl, rfl⟩, trivial⟩))
  · skip
    refine Fn_of' (fn := f52) (by exact func52) c52 r52 (n := 37) (by rfl) (rv := [.tmp 2]) (by rfl) (by simp) ?_
    unfold m52
    simp only [Cs.s, Cs.p]
    repeat' (first
        | (simp only [onC_true, ints_noOwn, zero_nat, one_nat, two_nat, three_nat, ↓wA, ↓wC, wB, frzBE, frzBS, Nat.reduceEqDiff, Nat.reduceAdd, Nat.reduceSub, reduceIte, reduceCtorEq, Nat.reduceBEq, Nat.reduceLT, decide_true])
        | (refine call_det hD rfl rfl ?_)
        | (refine onJ_q ?_)
        | (with_reducible refine And.intro ?_ ?_)
        | (with_reducible refine onC_i ?_ ?_; focus ((try simp only [List.length_append, List.length_cons, List.length_nil]); omega))
        | (with_reducible refine onI_bare ?_ ?_; focus (simp only [InR]; omega))
        | (refine execG_split (fun h => ?_) (fun h => ?_) <;> simp only [h])
        | (refine execC_split (fun h => ?_) (fun h => ?_) <;> (try simp only [h]))
        | (refine onPick_split (fun h => ?_) (fun h => ?_) <;> (try simp only [h])))
    all_goals simp only [pre1, pre2, pre3]
    all_goals have hpl := pre_len 3
    all_goals refine exec_range hs.length (fun i : Nat => ⟨[(1, .ptr 0 0 []), (3, .d (.str (pre 3 ++ (Lib.itoa d ++ heldT (hs.take i))))), (4, .d (.int .i64 i))], [.box (.st (.cons (.int .i64 xi) (.cons (.int .i64 3) (.cons (.int .i64 d) (.cons (.sl false 1 (dl iD hs)) .nil)))))]⟩) (fun _ => True) (by rw [heldT_0, List.append_nil]; exact (weak_of _ rfl ⟨⟨rfl, rfl⟩, ⟨rfl, rfl⟩, ⟨rfl, rfl⟩, trivial⟩)) trivial ?_ ?_
    all_goals first
      | (intro _ hd
         repeat' (first
             | (simp only [onC_true, ints_noOwn, dl_len, hd, List.take_length, ↓wA, ↓wC, wB, frzBE, frzBS, Nat.reduceEqDiff, Nat.reduceAdd, Nat.reduceSub, reduceIte, reduceCtorEq, Nat.reduceBEq, Nat.reduceLT, decide_true])
             | (refine execG_split (fun h => ?_) (fun h => ?_) <;> simp only [h])
             | (refine execC_split (fun h => ?_) (fun h => ?_) <;> (try simp only [h]))
             | (refine onPick_split (fun h => ?_) (fun h => ?_) <;> (try simp only [h])))
         done)
      | skip
    all_goals
      intro i hlt _ hd h0
      obtain ⟨n, hr⟩ := get_lt hlt
      have hn5 := h5 n (List.mem_of_getElem? hr)
      have hN := l1Num_fn n hn5.1 hn5.2
      have hnl := itoa_le n hn5.2
      have hTl := heldT_len (v := hs.take i) (fun m hm => (h5 m (List.mem_of_mem_take hm)).2)
      rw [List.length_take, Nat.min_eq_left (by omega)] at hTl
      by_cases hi0 : i = 0
      · have hq : decide ((i : Int) = 0) = true := decide_eq_true (by omega)
        have hx := heldT_1 hr hi0
        repeat' (first
            | (simp only [onC_true, ints_noOwn, dl_len, dl_nth, hd, h0, hq, Int.toNat_natCast, hr, Option.map_some, rd_iD, iD, ↓wA, ↓wC, wB, frzBE, frzBS, Nat.reduceEqDiff, Nat.reduceAdd, Nat.reduceSub, reduceIte, reduceCtorEq, Nat.reduceBEq, Nat.reduceLT, decide_true])
            | (refine call_det hN rfl rfl ?_)
            | (with_reducible refine onC_i ?_ ?_; focus ((try simp only [List.length_append, List.length_cons, List.length_nil]); omega))
            | (with_reducible refine onI_bare ?_ ?_; focus (simp only [InR]; omega))
            | (refine execG_split (fun h => ?_) (fun h => ?_) <;> simp only [h])
            | (refine execC_split (fun h => ?_) (fun h => ?_) <;> (try simp only [h]))
            | (refine onPick_split (fun h => ?_) (fun h => ?_) <;> (try simp only [h])))
        all_goals (refine ⟨i + 1, ?_, by omega, by omega⟩; rw [hx]; (try simp only [List.append_assoc, List.cons_append, List.nil_append]); exact (weak_of _ rfl ⟨⟨rfl, rfl⟩, ⟨rfl, rfl⟩, ⟨rfl, rfl⟩, trivial⟩))
      · have hq : decide ((i : Int) = 0) = false := decide_eq_false (by omega)
        have hx := heldT_2 hr hi0
        repeat' (first
            | (simp only [onC_true, ints_noOwn, dl_len, dl_nth, hd, h0, hq, Int.toNat_natCast, hr, Option.map_some, rd_iD, iD, ↓wA, ↓wC, wB, frzBE, frzBS, Nat.reduceEqDiff, Nat.reduceAdd, Nat.reduceSub, reduceIte, reduceCtorEq, Nat.reduceBEq, Nat.reduceLT, decide_true])
            | (refine call_det hN rfl rfl ?_)
            | (with_reducible refine onC_i ?_ ?_; focus ((try simp only [List.length_append, List.length_cons, List.length_nil]); omega))
            | (with_reducible refine onI_bare ?_ ?_; focus (simp only [InR]; omega))
            | (refine execG_split (fun h => ?_) (fun h => ?_) <;> simp only [h])
            | (refine execC_split (fun h => ?_) (fun h => ?_) <;> (try simp only [h]))
            | (refine onPick_split (fun h => ?_) (fun h => ?_) <;> (try simp only [h])))
        all_goals (refine ⟨i + 1, ?_, by omega, by omega⟩; rw [hx]; (try simp only [List.append_assoc, List.cons_append, List.nil_append]); exact (weak_of _ rfl ⟨⟨rfl, rfl⟩, ⟨rfl, rfl⟩, ⟨rfl, rfl⟩, trivial⟩))
end Go.Pe.Tryd
