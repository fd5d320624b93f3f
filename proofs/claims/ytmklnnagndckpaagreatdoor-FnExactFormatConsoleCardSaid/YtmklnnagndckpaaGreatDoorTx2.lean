/- The text of a console, walked, and the law of FormatConsole. -/
import Derived.Test.YtmklnnagndckpaaGreatDoorW2
set_option maxRecDepth 100000
set_option maxHeartbeats 4000000
set_option linter.all false
namespace Go.Pe.Tryz
open Go.Proofs.Tryz Go.Sort
theorem lv_count {d p : List UInt8} {k : Int} (h : lv d p k = true) : 0 ≤ k ∧ k ≤ 60 := by
  have hE := opens_le 60 0 (d ++ p)
  simp only [lv, Bool.and_eq_true, decide_eq_true_eq] at h
  omega
def cT (x : Cs) : List UInt8 := Lib.itoa x.i ++ [58, 32] ++ txt x ++ [10]
def lT (s : List UInt8) : List UInt8 := [45, 32] ++ s ++ [10]
def csT (xs : List Cs) : List UInt8 := (xs.map cT).flatten
def ldT (L : List (List UInt8)) : List UInt8 := (L.map lT).flatten
def tlT (x : Con) : List UInt8 := [100, 97, 121, 32] ++ Lib.itoa x.o.day ++ [59, 32, 107, 101, 112, 116, 32] ++ Lib.itoa x.o.kept ++ [59, 32, 109, 111, 118, 101, 100, 32] ++ Lib.itoa x.o.moved ++ [59, 32, 114, 101, 99, 111, 114, 100, 115, 32] ++ Lib.itoa x.c ++ [10]
def fmtT (x : Con) : List UInt8 := csT x.o.cs ++ (ldT x.o.led ++ tlT x)
def fmtR (x : Con) : List D := if conOK x = true then [.str (fmtT x), .bool true] else [.str [], .bool false]
theorem csT_0 (xs : List Cs) : csT (xs.take 0) = [] := rfl
theorem ldT_0 (L : List (List UInt8)) : ldT (L.take 0) = [] := rfl
theorem csT_at {xs : List Cs} {i : Nat} {x : Cs} (hr : xs[i]? = some x) : csT (xs.take (i + 1)) = csT (xs.take i) ++ (Lib.itoa x.i ++ (58 :: 32 :: (txt x ++ [10]))) := by
  rw [take_get hr]
  simp [csT, cT]
theorem ldT_at {L : List (List UInt8)} {i : Nat} {s : List UInt8} (hr : L[i]? = some s) : ldT (L.take (i + 1)) = ldT (L.take i) ++ (45 :: 32 :: (s ++ [10])) := by
  rw [take_get hr]
  simp [ldT, lT]
theorem csT_len : ∀ xs : List Cs, (∀ x ∈ xs, caseOK x = true) → (csT xs).length ≤ xs.length * 300
  | [], _ => by simp [csT]
  | x :: xs, h => by
    have h1 := csT_len xs (fun y hy => h y (List.mem_cons_of_mem _ hy))
    have h2 := txt_len (h x List.mem_cons_self)
    have h3 := itoa_le x.i (case_facts (h x List.mem_cons_self)).2.1.2
    have : csT (x :: xs) = cT x ++ csT xs := rfl
    rw [this]
    simp only [cT, List.length_append, List.length_cons, List.length_nil] at h1 ⊢
    omega
theorem ldT_len : ∀ L : List (List UInt8), (∀ s ∈ L, s.length ≤ 1048576) → (ldT L).length ≤ L.length * 1048580
  | [], _ => by simp [ldT]
  | s :: L, h => by
    have h1 := ldT_len L (fun y hy => h y (List.mem_cons_of_mem _ hy))
    have h2 := h s List.mem_cons_self
    have : ldT (s :: L) = lT s ++ ldT L := rfl
    rw [this]
    simp only [lT, List.length_append, List.length_cons, List.length_nil] at h1 ⊢
    omega
/-- what of a valid console its text needs. -/
theorem con_facts {x : Con} (h : conOK x = true) : (0 ≤ x.o.day ∧ InR .i64 x.o.day) ∧ (0 ≤ x.o.kept ∧ InR .i64 x.o.kept) ∧ (0 ≤ x.o.moved ∧ InR .i64 x.o.moved) ∧ (0 ≤ x.c ∧ InR .i64 x.c) ∧ x.o.cs.length ≤ 6 ∧ ∀ y ∈ x.o.cs, caseOK y = true := by
  simp only [conOK, offOK, headOK, Bool.and_eq_true, within, decide_eq_true_eq] at h
  obtain ⟨⟨⟨⟨⟨⟨h1, h2⟩, h3⟩, h4⟩, h5⟩, h6⟩, h7⟩ := h
  have hc := lv_count h7
  refine ⟨⟨by omega, by simp only [InR]; omega⟩, ⟨by omega, by simp only [InR]; omega⟩, ⟨by omega, by simp only [InR]; omega⟩, ⟨by omega, by simp only [InR]; omega⟩, by omega, fun y hy => ?_⟩
  obtain ⟨i, hi⟩ := List.getElem?_of_mem hy
  have := List.all_eq_true.1 h6 i (List.mem_range.2 (lt_of_get hi))
  rw [stepC_at hi, Bool.and_eq_true] at this
  exact this.1
theorem doff_c01 {x : Con} : doff [0, 1] x.s = 1 := rfl
theorem doff_c04 {x : Con} : doff [0, 4] x.s = 4 := rfl
theorem doff_c00 {x : Con} : doff [0, 0] x.s = 0 := rfl
theorem doff_c02 {x : Con} : doff [0, 2] x.s = 2 := rfl
theorem doff_c03 {x : Con} : doff [0, 3] x.s = 3 := rfl
theorem doff_c12 {x : Con} : doff [1, 2] x.s = 7 := rfl
theorem dget_c01 {x : Con} : dget [0, 1] x.s = some (.sl false 4 (dl Cs.s x.o.cs)) := rfl
theorem dget_c04 {x : Con} : dget [0, 4] x.s = some (.sl false 1 (dl D.str x.o.led)) := rfl
theorem dget_c00 {x : Con} : dget [0, 0] x.s = some (.int .i64 x.o.day) := rfl
theorem dget_c02 {x : Con} : dget [0, 2] x.s = some (.int .i64 x.o.kept) := rfl
theorem dget_c03 {x : Con} : dget [0, 3] x.s = some (.int .i64 x.o.moved) := rfl
theorem dget_c12 {x : Con} : dget [1, 2] x.s = some (.int .i64 x.c) := rfl
theorem doff_o0 {x : Off} : doff [0] x.s = 0 := rfl
theorem doff_o1 {x : Off} : doff [1] x.s = 1 := rfl
theorem doff_o2 {x : Off} : doff [2] x.s = 2 := rfl
theorem doff_o3 {x : Off} : doff [3] x.s = 3 := rfl
theorem doff_o4 {x : Off} : doff [4] x.s = 4 := rfl
theorem dget_o0 {x : Off} : dget [0] x.s = some (.int .i64 x.day) := rfl
theorem dget_o1 {x : Off} : dget [1] x.s = some (.sl false 4 (dl Cs.s x.cs)) := rfl
theorem dget_o2 {x : Off} : dget [2] x.s = some (.int .i64 x.kept) := rfl
theorem dget_o3 {x : Off} : dget [3] x.s = some (.int .i64 x.moved) := rfl
theorem dget_o4 {x : Off} : dget [4] x.s = some (.sl false 1 (dl D.str x.led)) := rfl
theorem implFormat_fn (x : Con) (ho : x.ok0) : Fn prog 15 [x.s] (fun rs => rs = fmtR x) := by
  have hV := isValidConsole_fn x ho
  unfold fmtR
  cases hv : conOK x with
  | false =>
    rw [hv] at hV
    refine Fn_of' (fn := f15) (by exact func15) c15 r15 (n := 71) (by rfl) (rv := [.tmp 2, .tmp 3]) (by rfl) (by simp) ?_
    unfold m15
    repeat' (first
        | (simp only [Con.s_noOwn, Con.s_isV, ↓rd_con, onC_true, ↓wA, ↓wC, wB, frzBE, frzBS, Nat.reduceEqDiff, Nat.reduceAdd, Nat.reduceSub, reduceIte, reduceCtorEq, Nat.reduceBEq, Nat.reduceLT, decide_true])
        | (refine call_det hV (by simp [argsD, argD, Con.s_unown]) rfl ?_)
        | (refine execG_split (fun h => ?_) (fun h => ?_) <;> simp only [h])
        | (refine execC_split (fun h => ?_) (fun h => ?_) <;> (try simp only [h]))
        | (refine onPick_split (fun h => ?_) (fun h => ?_) <;> (try simp only [h])))
    all_goals simp
  | true =>
    rw [hv] at hV
    obtain ⟨⟨_, d1⟩, ⟨_, d2⟩, ⟨_, d3⟩, ⟨_, d4⟩, h5, h6⟩ := con_facts hv
    refine Fn_of' (fn := f15) (by exact func15) c15 r15 (n := 71) (by rfl) (rv := [.tmp 2, .tmp 3]) (by rfl) (by simp) ?_
    unfold m15
    repeat' (first
        | (simp only [Con.s_noOwn, Con.s_isV, ↓rd_con, onC_true, dl_len, css_noOwn, doff_c01, dget_c01, ↓wA, ↓wC, wB, frzBE, frzBS, Nat.reduceEqDiff, Nat.reduceAdd, Nat.reduceSub, reduceIte, reduceCtorEq, Nat.reduceBEq, Nat.reduceLT, decide_true])
        | (refine call_det hV (by simp [argsD, argD, Con.s_unown]) rfl ?_)
        | (refine execG_split (fun h => ?_) (fun h => ?_) <;> simp only [h])
        | (refine execC_split (fun h => ?_) (fun h => ?_) <;> (try simp only [h]))
        | (refine onPick_split (fun h => ?_) (fun h => ?_) <;> (try simp only [h])))
    refine exec_range x.o.cs.length (fun i : Nat => ⟨[(1, .ptr 0 0 []), (4, .d (.str (csT (x.o.cs.take i)))), (14, .d (.sl false 4 (dl Cs.s x.o.cs))), (15, .d (.int .i64 x.o.cs.length)), (16, .d (.int .i64 i))], [.box x.s]⟩) (fun _ => True) (by rw [csT_0]; exact (weak_of _ rfl ⟨⟨rfl, rfl⟩, ⟨rfl, rfl⟩, ⟨rfl, rfl⟩, ⟨rfl, rfl⟩, ⟨rfl, rfl⟩, trivial⟩)) trivial ?_ ?_
    · intro i hlt _ hd h0
      obtain ⟨y, hr⟩ := get_lt hlt
      have hok := h6 y (List.mem_of_getElem? hr)
      have hC := caseText_fn y hok
      have hI := (case_facts hok).2.1
      have hD := decimal_fn y.i hI.2
      have hx := csT_at hr
      have hl := csT_len (x.o.cs.take i) (fun z hz => h6 z (List.mem_of_mem_take hz))
      rw [List.length_take, Nat.min_eq_left (by omega)] at hl
      have hl2 := txt_len hok
      have hl3 := itoa_le y.i hI.2
      repeat' (first
          | (simp only [onC_true, dl_len, dl_nth, hd, h0, Int.toNat_natCast, hr, Option.map_some, ↓rd_cs, Cs.s_isV, Cs.s_size, Cs.s_noOwn, doff_s0, dget_s0, ↓wA, ↓wC, wB, frzBE, frzBS, Nat.reduceEqDiff, Nat.reduceAdd, Nat.reduceSub, reduceIte, reduceCtorEq, Nat.reduceBEq, Nat.reduceLT, decide_true])
          | (refine callP_det hD rfl rfl ?_)
          | (refine callP_det hC (by simp [argsD, argD, valOf, Cs.s_unown]) rfl ?_)
          | (with_reducible refine onC_i ?_ ?_; focus ((try simp only [List.length_append, List.length_cons, List.length_nil]); omega))
          | (with_reducible refine onI_bare ?_ ?_; focus (simp only [InR]; omega))
          | (refine execG_split (fun h => ?_) (fun h => ?_) <;> simp only [h])
          | (refine execC_split (fun h => ?_) (fun h => ?_) <;> (try simp only [h]))
          | (refine onPick_split (fun h => ?_) (fun h => ?_) <;> (try simp only [h])))
      all_goals (refine ⟨i + 1, ?_, by omega, by omega⟩; rw [hx]; (try simp only [List.append_assoc, List.cons_append, List.nil_append]); exact (weak_of _ rfl ⟨⟨rfl, rfl⟩, ⟨rfl, rfl⟩, ⟨rfl, rfl⟩, ⟨rfl, rfl⟩, ⟨rfl, rfl⟩, trivial⟩))
    · intro _ hd
      have hcl := csT_len x.o.cs h6
      repeat' (first
          | (simp only [onC_true, dl_len, hd, List.take_length, strs_noOwn, doff_c04, dget_c04, ↓wA, ↓wC, wB, frzBE, frzBS, Nat.reduceEqDiff, Nat.reduceAdd, Nat.reduceSub, reduceIte, reduceCtorEq, Nat.reduceBEq, Nat.reduceLT, decide_true])
          | (refine execG_split (fun h => ?_) (fun h => ?_) <;> simp only [h])
          | (refine execC_split (fun h => ?_) (fun h => ?_) <;> (try simp only [h]))
          | (refine onPick_split (fun h => ?_) (fun h => ?_) <;> (try simp only [h])))
      refine exec_range x.o.led.length (fun i : Nat => ⟨[(1, .ptr 0 0 []), (4, .d (.str (csT x.o.cs ++ ldT (x.o.led.take i)))), (33, .d (.sl false 1 (dl D.str x.o.led))), (34, .d (.int .i64 x.o.led.length)), (35, .d (.int .i64 i))], [.box x.s]⟩) (fun _ => True) (by rw [ldT_0, List.append_nil]; exact (weak_of _ rfl ⟨⟨rfl, rfl⟩, ⟨rfl, rfl⟩, ⟨rfl, rfl⟩, ⟨rfl, rfl⟩, ⟨rfl, rfl⟩, trivial⟩)) trivial ?_ ?_
      · intro i hlt _ hd h0
        obtain ⟨s, hr⟩ := get_lt hlt
        have hx := ldT_at hr
        have hsl := ho.1.2.2 s (List.mem_of_getElem? hr)
        have hln := ho.1.2.1
        have hl := ldT_len (x.o.led.take i) (fun z hz => ho.1.2.2 z (List.mem_of_mem_take hz))
        rw [List.length_take, Nat.min_eq_left (by omega)] at hl
        repeat' (first
            | (simp only [onC_true, dl_len, dl_nth, hd, h0, Int.toNat_natCast, hr, Option.map_some, ↓wA, ↓wC, wB, frzBE, frzBS, Nat.reduceEqDiff, Nat.reduceAdd, Nat.reduceSub, reduceIte, reduceCtorEq, Nat.reduceBEq, Nat.reduceLT, decide_true])
            | (with_reducible refine onC_i ?_ ?_; focus ((try simp only [List.length_append, List.length_cons, List.length_nil]); omega))
            | (with_reducible refine onI_bare ?_ ?_; focus (simp only [InR]; omega))
            | (refine execG_split (fun h => ?_) (fun h => ?_) <;> simp only [h])
            | (refine execC_split (fun h => ?_) (fun h => ?_) <;> (try simp only [h]))
            | (refine onPick_split (fun h => ?_) (fun h => ?_) <;> (try simp only [h])))
        all_goals (refine ⟨i + 1, ?_, by omega, by omega⟩; rw [hx]; (try simp only [List.append_assoc, List.cons_append, List.nil_append]); exact (weak_of _ rfl ⟨⟨rfl, rfl⟩, ⟨rfl, rfl⟩, ⟨rfl, rfl⟩, ⟨rfl, rfl⟩, ⟨rfl, rfl⟩, trivial⟩))
      · intro _ hd
        have e1 := decimal_fn x.o.day d1
        have e2 := decimal_fn x.o.kept d2
        have e3 := decimal_fn x.o.moved d3
        have e4 := decimal_fn x.c d4
        have l1 := itoa_le x.o.day d1
        have l2 := itoa_le x.o.kept d2
        have l3 := itoa_le x.o.moved d3
        have l4 := itoa_le x.c d4
        have hl := ldT_len x.o.led ho.1.2.2
        have hln := ho.1.2.1
        repeat' (first
            | (simp only [onC_true, dl_len, hd, List.take_length, doff_c00, dget_c00, doff_c02, dget_c02, doff_c03, dget_c03, doff_c12, dget_c12, ↓wA, ↓wC, wB, frzBE, frzBS, Nat.reduceEqDiff, Nat.reduceAdd, Nat.reduceSub, reduceIte, reduceCtorEq, Nat.reduceBEq, Nat.reduceLT, decide_true])
            | (refine callP_det e1 rfl rfl ?_)
            | (refine callP_det e2 rfl rfl ?_)
            | (refine callP_det e3 rfl rfl ?_)
            | (refine callP_det e4 rfl rfl ?_)
            | (with_reducible refine onC_i ?_ ?_; focus ((try simp only [List.length_append, List.length_cons, List.length_nil]); omega))
            | (refine execG_split (fun h => ?_) (fun h => ?_) <;> simp only [h])
            | (refine execC_split (fun h => ?_) (fun h => ?_) <;> (try simp only [h]))
            | (refine onPick_split (fun h => ?_) (fun h => ?_) <;> (try simp only [h])))
        all_goals (simp [fmtT, tlT]; done)
theorem specFormat_fn (x : Con) (ho : x.ok0) : Fn prog 14 [x.s] (fun rs => rs = fmtR x) := by
  have hV := l28Good_fn x ho
  unfold fmtR
  cases hv : conOK x with
  | false =>
    rw [hv] at hV
    refine Fn_of' (fn := f14) (by exact func14) c14 r14 (n := 77) (by rfl) (rv := [.tmp 2, .tmp 3]) (by rfl) (by simp) ?_
    unfold m14
    repeat' (first
        | (simp only [Con.s_noOwn, Con.s_isV, ↓rd_con, onC_true, ↓wA, ↓wC, wB, frzBE, frzBS, Nat.reduceEqDiff, Nat.reduceAdd, Nat.reduceSub, reduceIte, reduceCtorEq, Nat.reduceBEq, Nat.reduceLT, decide_true])
        | (refine call_det hV (by simp [argsD, argD, Con.s_unown]) rfl ?_)
        | (refine execG_split (fun h => ?_) (fun h => ?_) <;> simp only [h])
        | (refine execC_split (fun h => ?_) (fun h => ?_) <;> (try simp only [h]))
        | (refine onPick_split (fun h => ?_) (fun h => ?_) <;> (try simp only [h])))
    all_goals simp
  | true =>
    rw [hv] at hV
    obtain ⟨⟨z1, d1⟩, ⟨z2, d2⟩, ⟨z3, d3⟩, ⟨z4, d4⟩, h5, h6⟩ := con_facts hv
    refine Fn_of' (fn := f14) (by exact func14) c14 r14 (n := 77) (by rfl) (rv := [.tmp 2, .tmp 3]) (by rfl) (by simp) ?_
    unfold m14
    repeat' (first
        | (simp only [Con.s_noOwn, Con.s_isV, ↓rd_con, onC_true, dl_len, css_noOwn, doff_c0, dget_c0, ↓rd_off, Off.s_noOwn, Off.s_isV, Off.s_size, ↓wA, ↓wC, wB, frzBE, frzBS, Nat.reduceEqDiff, Nat.reduceAdd, Nat.reduceSub, reduceIte, reduceCtorEq, Nat.reduceBEq, Nat.reduceLT, decide_true])
        | (refine onJ_q ?_)
        | (with_reducible refine And.intro ?_ ?_)
        | (refine call_det hV (by simp [argsD, argD, Con.s_unown]) rfl ?_)
        | (refine execG_split (fun h => ?_) (fun h => ?_) <;> simp only [h])
        | (refine execC_split (fun h => ?_) (fun h => ?_) <;> (try simp only [h]))
        | (refine onPick_split (fun h => ?_) (fun h => ?_) <;> (try simp only [h])))
    · skip
      refine exec_range x.o.cs.length (fun i : Nat => ⟨[(1, .ptr 0 0 []), (4, .d (.str (csT (x.o.cs.take i)))), (5, .ptr 1 0 []), (6, .d (.int .i64 i))], [.box x.s, .box x.o.s]⟩) (fun _ => True) (by rw [csT_0]; exact (weak_of _ rfl ⟨⟨rfl, rfl⟩, ⟨rfl, rfl⟩, ⟨rfl, rfl⟩, ⟨rfl, rfl⟩, trivial⟩)) trivial ?_ ?_
      · intro i hlt _ hd h0
        obtain ⟨y, hr⟩ := get_lt hlt
        have hok := h6 y (List.mem_of_getElem? hr)
        have hC := l25Text_fn y hok
        have hI := (case_facts hok).2.1
        have hD := l1Num_fn y.i hI.1 hI.2
        have hx := csT_at hr
        have hl := csT_len (x.o.cs.take i) (fun z hz => h6 z (List.mem_of_mem_take hz))
        rw [List.length_take, Nat.min_eq_left (by omega)] at hl
        have hl2 := txt_len hok
        have hl3 := itoa_le y.i hI.2
        repeat' (first
            | (simp only [onC_true, dl_len, dl_nth, hd, h0, Int.toNat_natCast, hr, Option.map_some, css_noOwn, ↓rd_cs, fa_cs0, Cs.s_isV, Cs.s_size, Cs.s_noOwn, doff_o1, dget_o1, ↓wA, ↓wC, wB, frzBE, frzBS, Nat.reduceEqDiff, Nat.reduceAdd, Nat.reduceSub, reduceIte, reduceCtorEq, Nat.reduceBEq, Nat.reduceLT, decide_true])
            | (refine callP_det hD rfl rfl ?_)
            | (refine callP_det hC (by simp [argsD, argD, valOf, Cs.s_unown]) rfl ?_)
            | (with_reducible refine onC_i ?_ ?_; focus ((try simp only [List.length_append, List.length_cons, List.length_nil]); omega))
            | (with_reducible refine onI_bare ?_ ?_; focus (simp only [InR]; omega))
            | (refine execG_split (fun h => ?_) (fun h => ?_) <;> simp only [h])
            | (refine execC_split (fun h => ?_) (fun h => ?_) <;> (try simp only [h]))
            | (refine onPick_split (fun h => ?_) (fun h => ?_) <;> (try simp only [h])))
        all_goals (refine ⟨i + 1, ?_, by omega, by omega⟩; rw [hx]; (try simp only [List.append_assoc, List.cons_append, List.nil_append]); exact (weak_of _ rfl ⟨⟨rfl, rfl⟩, ⟨rfl, rfl⟩, ⟨rfl, rfl⟩, ⟨rfl, rfl⟩, trivial⟩))
      · intro _ hd
        have hcl := csT_len x.o.cs h6
        repeat' (first
            | (simp only [onC_true, dl_len, hd, List.take_length, css_noOwn, doff_o1, dget_o1, ↓wA, ↓wC, wB, frzBE, frzBS, Nat.reduceEqDiff, Nat.reduceAdd, Nat.reduceSub, reduceIte, reduceCtorEq, Nat.reduceBEq, Nat.reduceLT, decide_true])
            | (refine execG_split (fun h => ?_) (fun h => ?_) <;> simp only [h])
            | (refine execC_split (fun h => ?_) (fun h => ?_) <;> (try simp only [h]))
            | (refine onPick_split (fun h => ?_) (fun h => ?_) <;> (try simp only [h])))
        refine exec_range x.o.led.length (fun i : Nat => ⟨[(1, .ptr 0 0 []), (4, .d (.str (csT x.o.cs ++ ldT (x.o.led.take i)))), (5, .ptr 1 0 []), (7, .d (.int .i64 i))], [.box x.s, .box x.o.s]⟩) (fun _ => True) (by rw [ldT_0, List.append_nil]; exact (weak_of _ rfl ⟨⟨rfl, rfl⟩, ⟨rfl, rfl⟩, ⟨rfl, rfl⟩, ⟨rfl, rfl⟩, trivial⟩)) trivial ?_ ?_
        · intro i hlt _ hd h0
          obtain ⟨s, hr⟩ := get_lt hlt
          have hx := ldT_at hr
          have hsl := ho.1.2.2 s (List.mem_of_getElem? hr)
          have hln := ho.1.2.1
          have hl := ldT_len (x.o.led.take i) (fun z hz => ho.1.2.2 z (List.mem_of_mem_take hz))
          rw [List.length_take, Nat.min_eq_left (by omega)] at hl
          repeat' (first
              | (simp only [onC_true, dl_len, dl_nth, hd, h0, Int.toNat_natCast, hr, Option.map_some, strs_noOwn, doff_o4, dget_o4, ↓wA, ↓wC, wB, frzBE, frzBS, Nat.reduceEqDiff, Nat.reduceAdd, Nat.reduceSub, reduceIte, reduceCtorEq, Nat.reduceBEq, Nat.reduceLT, decide_true])
              | (with_reducible refine onC_i ?_ ?_; focus ((try simp only [List.length_append, List.length_cons, List.length_nil]); omega))
              | (with_reducible refine onI_bare ?_ ?_; focus (simp only [InR]; omega))
              | (refine execG_split (fun h => ?_) (fun h => ?_) <;> simp only [h])
              | (refine execC_split (fun h => ?_) (fun h => ?_) <;> (try simp only [h]))
              | (refine onPick_split (fun h => ?_) (fun h => ?_) <;> (try simp only [h])))
          all_goals (refine ⟨i + 1, ?_, by omega, by omega⟩; rw [hx]; (try simp only [List.append_assoc, List.cons_append, List.nil_append]); exact (weak_of _ rfl ⟨⟨rfl, rfl⟩, ⟨rfl, rfl⟩, ⟨rfl, rfl⟩, ⟨rfl, rfl⟩, trivial⟩))
        · intro _ hd
          have e1 := l1Num_fn x.o.day z1 d1
          have e2 := l1Num_fn x.o.kept z2 d2
          have e3 := l1Num_fn x.o.moved z3 d3
          have e4 := l1Num_fn x.c z4 d4
          have l1 := itoa_le x.o.day d1
          have l2 := itoa_le x.o.kept d2
          have l3 := itoa_le x.o.moved d3
          have l4 := itoa_le x.c d4
          have hl := ldT_len x.o.led ho.1.2.2
          have hln := ho.1.2.1
          repeat' (first
              | (simp only [onC_true, dl_len, hd, List.take_length, strs_noOwn, doff_o0, dget_o0, doff_o2, dget_o2, doff_o3, dget_o3, doff_o4, dget_o4, doff_c12, dget_c12, ↓wA, ↓wC, wB, frzBE, frzBS, Nat.reduceEqDiff, Nat.reduceAdd, Nat.reduceSub, reduceIte, reduceCtorEq, Nat.reduceBEq, Nat.reduceLT, decide_true])
              | (refine callP_det e1 rfl rfl ?_)
              | (refine callP_det e2 rfl rfl ?_)
              | (refine callP_det e3 rfl rfl ?_)
              | (refine callP_det e4 rfl rfl ?_)
              | (with_reducible refine onC_i ?_ ?_; focus ((try simp only [List.length_append, List.length_cons, List.length_nil]); omega))
              | (refine execG_split (fun h => ?_) (fun h => ?_) <;> simp only [h])
              | (refine execC_split (fun h => ?_) (fun h => ?_) <;> (try simp only [h]))
              | (refine onPick_split (fun h => ?_) (fun h => ?_) <;> (try simp only [h])))
          all_goals (simp [fmtT, tlT]; done)
    · skip
      refine exec_range x.o.cs.length (fun i : Nat => ⟨[(1, .ptr 0 0 []), (4, .d (.str (csT (x.o.cs.take i)))), (5, .ptr 1 0 []), (6, .d (.int .i64 i))], [.box x.s, .box x.o.s]⟩) (fun _ => True) (by rw [csT_0]; exact (weak_of _ rfl ⟨⟨rfl, rfl⟩, ⟨rfl, rfl⟩, ⟨rfl, rfl⟩, ⟨rfl, rfl⟩, trivial⟩)) trivial ?_ ?_
      · intro i hlt _ hd h0
        obtain ⟨y, hr⟩ := get_lt hlt
        have hok := h6 y (List.mem_of_getElem? hr)
        have hC := l25Text_fn y hok
        have hI := (case_facts hok).2.1
        have hD := l1Num_fn y.i hI.1 hI.2
        have hx := csT_at hr
        have hl := csT_len (x.o.cs.take i) (fun z hz => h6 z (List.mem_of_mem_take hz))
        rw [List.length_take, Nat.min_eq_left (by omega)] at hl
        have hl2 := txt_len hok
        have hl3 := itoa_le y.i hI.2
        repeat' (first
            | (simp only [onC_true, dl_len, dl_nth, hd, h0, Int.toNat_natCast, hr, Option.map_some, css_noOwn, ↓rd_cs, fa_cs0, Cs.s_isV, Cs.s_size, Cs.s_noOwn, doff_o1, dget_o1, ↓wA, ↓wC, wB, frzBE, frzBS, Nat.reduceEqDiff, Nat.reduceAdd, Nat.reduceSub, reduceIte, reduceCtorEq, Nat.reduceBEq, Nat.reduceLT, decide_true])
            | (refine callP_det hD rfl rfl ?_)
            | (refine callP_det hC (by simp [argsD, argD, valOf, Cs.s_unown]) rfl ?_)
            | (with_reducible refine onC_i ?_ ?_; focus ((try simp only [List.length_append, List.length_cons, List.length_nil]); omega))
            | (with_reducible refine onI_bare ?_ ?_; focus (simp only [InR]; omega))
            | (refine execG_split (fun h => ?_) (fun h => ?_) <;> simp only [h])
            | (refine execC_split (fun h => ?_) (fun h => ?_) <;> (try simp only [h]))
            | (refine onPick_split (fun h => ?_) (fun h => ?_) <;> (try simp only [h])))
        all_goals (refine ⟨i + 1, ?_, by omega, by omega⟩; rw [hx]; (try simp only [List.append_assoc, List.cons_append, List.nil_append]); exact (weak_of _ rfl ⟨⟨rfl, rfl⟩, ⟨rfl, rfl⟩, ⟨rfl, rfl⟩, ⟨rfl, rfl⟩, trivial⟩))
      · intro _ hd
        have hcl := csT_len x.o.cs h6
        repeat' (first
            | (simp only [onC_true, dl_len, hd, List.take_length, css_noOwn, doff_o1, dget_o1, ↓wA, ↓wC, wB, frzBE, frzBS, Nat.reduceEqDiff, Nat.reduceAdd, Nat.reduceSub, reduceIte, reduceCtorEq, Nat.reduceBEq, Nat.reduceLT, decide_true])
            | (refine execG_split (fun h => ?_) (fun h => ?_) <;> simp only [h])
            | (refine execC_split (fun h => ?_) (fun h => ?_) <;> (try simp only [h]))
            | (refine onPick_split (fun h => ?_) (fun h => ?_) <;> (try simp only [h])))
        refine exec_range x.o.led.length (fun i : Nat => ⟨[(1, .ptr 0 0 []), (4, .d (.str (csT x.o.cs ++ ldT (x.o.led.take i)))), (5, .ptr 1 0 []), (7, .d (.int .i64 i))], [.box x.s, .box x.o.s]⟩) (fun _ => True) (by rw [ldT_0, List.append_nil]; exact (weak_of _ rfl ⟨⟨rfl, rfl⟩, ⟨rfl, rfl⟩, ⟨rfl, rfl⟩, ⟨rfl, rfl⟩, trivial⟩)) trivial ?_ ?_
        · intro i hlt _ hd h0
          obtain ⟨s, hr⟩ := get_lt hlt
          have hx := ldT_at hr
          have hsl := ho.1.2.2 s (List.mem_of_getElem? hr)
          have hln := ho.1.2.1
          have hl := ldT_len (x.o.led.take i) (fun z hz => ho.1.2.2 z (List.mem_of_mem_take hz))
          rw [List.length_take, Nat.min_eq_left (by omega)] at hl
          repeat' (first
              | (simp only [onC_true, dl_len, dl_nth, hd, h0, Int.toNat_natCast, hr, Option.map_some, strs_noOwn, doff_o4, dget_o4, ↓wA, ↓wC, wB, frzBE, frzBS, Nat.reduceEqDiff, Nat.reduceAdd, Nat.reduceSub, reduceIte, reduceCtorEq, Nat.reduceBEq, Nat.reduceLT, decide_true])
              | (with_reducible refine onC_i ?_ ?_; focus ((try simp only [List.length_append, List.length_cons, List.length_nil]); omega))
              | (with_reducible refine onI_bare ?_ ?_; focus (simp only [InR]; omega))
              | (refine execG_split (fun h => ?_) (fun h => ?_) <;> simp only [h])
              | (refine execC_split (fun h => ?_) (fun h => ?_) <;> (try simp only [h]))
              | (refine onPick_split (fun h => ?_) (fun h => ?_) <;> (try simp only [h])))
          all_goals (refine ⟨i + 1, ?_, by omega, by omega⟩; rw [hx]; (try simp only [List.append_assoc, List.cons_append, List.nil_append]); exact (weak_of _ rfl ⟨⟨rfl, rfl⟩, ⟨rfl, rfl⟩, ⟨rfl, rfl⟩, ⟨rfl, rfl⟩, trivial⟩))
        · intro _ hd
          have e1 := l1Num_fn x.o.day z1 d1
          have e2 := l1Num_fn x.o.kept z2 d2
          have e3 := l1Num_fn x.o.moved z3 d3
          have e4 := l1Num_fn x.c z4 d4
          have l1 := itoa_le x.o.day d1
          have l2 := itoa_le x.o.kept d2
          have l3 := itoa_le x.o.moved d3
          have l4 := itoa_le x.c d4
          have hl := ldT_len x.o.led ho.1.2.2
          have hln := ho.1.2.1
          repeat' (first
              | (simp only [onC_true, dl_len, hd, List.take_length, strs_noOwn, doff_o0, dget_o0, doff_o2, dget_o2, doff_o3, dget_o3, doff_o4, dget_o4, doff_c12, dget_c12, ↓wA, ↓wC, wB, frzBE, frzBS, Nat.reduceEqDiff, Nat.reduceAdd, Nat.reduceSub, reduceIte, reduceCtorEq, Nat.reduceBEq, Nat.reduceLT, decide_true])
              | (refine callP_det e1 rfl rfl ?_)
              | (refine callP_det e2 rfl rfl ?_)
              | (refine callP_det e3 rfl rfl ?_)
              | (refine callP_det e4 rfl rfl ?_)
              | (with_reducible refine onC_i ?_ ?_; focus ((try simp only [List.length_append, List.length_cons, List.length_nil]); omega))
              | (refine execG_split (fun h => ?_) (fun h => ?_) <;> simp only [h])
              | (refine execC_split (fun h => ?_) (fun h => ?_) <;> (try simp only [h]))
              | (refine onPick_split (fun h => ?_) (fun h => ?_) <;> (try simp only [h])))
          all_goals (simp [fmtT, tlT]; done)
theorem lawFormatConsole_fn (x : Con) (hr : x.raw) : Fn prog 4 [x.s] (fun rs => rs = [.bool true]) := by
  refine Fn_of' (fn := f4) (by exact func4) c4 r4 (n := 40) (by rfl) (rv := [.tmp 2]) (by rfl) (by simp) ?_
  unfold m4
  repeat' (first
      | (simp only [Con.s_noOwn, Con.s_isV, ↓rd_con, onC_true, ↓wA, ↓wC, wB, frzBE, frzBS, Nat.reduceEqDiff, Nat.reduceAdd, Nat.reduceSub, reduceIte, reduceCtorEq, Nat.reduceBEq, Nat.reduceLT, decide_true])
      | (refine execG_split (fun h => ?_) (fun h => ?_) <;> simp only [h])
      | (refine execC_split (fun h => ?_) (fun h => ?_) <;> (try simp only [h]))
      | (refine onPick_split (fun h => ?_) (fun h => ?_) <;> (try simp only [h])))
  refine call_rel (szConsole_fn x hr) (by simp [argsD, argD, Con.s_unown]) fun rs h => ?_
  obtain ⟨m, rfl, m1, m2, m3⟩ := h
  refine ⟨.inl rfl, ?_⟩
  cases hd : decide (m < 0) with
  | true =>
    repeat' (first
        | (simp only [hd, ↓wA, ↓wC, wB, frzBE, frzBS, Nat.reduceEqDiff, Nat.reduceAdd, Nat.reduceSub, reduceIte, reduceCtorEq, Nat.reduceBEq, Nat.reduceLT, decide_true])
        | (refine execG_split (fun h => ?_) (fun h => ?_) <;> simp only [h])
        | (refine execC_split (fun h => ?_) (fun h => ?_) <;> (try simp only [h]))
        | (refine onPick_split (fun h => ?_) (fun h => ?_) <;> (try simp only [h])))
  | false =>
    have hd' := of_decide_eq_false hd
    have ho := m3 (by omega)
    have hT : Fn prog 11 [x.s] (fun rs => rs = [x.s]) := by simpa [Con.o_unown] using Fn_unown (toConsole_own x ho)
    have hS := specFormat_fn x ho
    have hI := implFormat_fn x ho
    have hE := eqConsole_refl x ho
    have hR : ∃ T b, fmtR x = [.str T, .bool b] := by unfold fmtR; split <;> exact ⟨_, _, rfl⟩
    obtain ⟨T, b, hR⟩ := hR
    rw [hR] at hS hI
    have hbb : (b == b) = true := by cases b <;> rfl
    have hTT : decide (T = T) = true := decide_eq_true rfl
    repeat' (first
        | (simp only [hd, hbb, hTT, Con.s_noOwn, Con.s_isV, Con.s_size, ↓rd_con, onC_true, ↓wA, ↓wC, wB, frzBE, frzBS, Nat.reduceEqDiff, Nat.reduceAdd, Nat.reduceSub, reduceIte, reduceCtorEq, Nat.reduceBEq, Nat.reduceLT, decide_true])
        | (refine call_det hT (by simp [argsD, argD, Con.s_unown]) rfl ?_)
        | (refine callP_det hT (by simp [argsD, argD, Con.s_unown]) rfl ?_)
        | (refine call_det hS (by simp [argsD, argD, Con.s_unown]) rfl ?_)
        | (refine call_det hI (by simp [argsD, argD, Con.s_unown]) rfl ?_)
        | (refine callP_det hE (by simp [argsD, argD, Con.s_unown]) rfl ?_)
        | (refine execG_split (fun h => ?_) (fun h => ?_) <;> simp only [h])
        | (refine execC_split (fun h => ?_) (fun h => ?_) <;> (try simp only [h]))
        | (refine onPick_split (fun h => ?_) (fun h => ?_) <;> (try simp only [h])))
    all_goals trace_state
theorem lawFormatConsole (x0 : D) (h0 : Typed conSh x0) : Fn prog 4 [x0] (fun rs => rs = [.bool true]) := by
  obtain ⟨o, rfl, hr⟩ := con_of x0 h0
  exact lawFormatConsole_fn o hr
end Go.Pe.Tryz
