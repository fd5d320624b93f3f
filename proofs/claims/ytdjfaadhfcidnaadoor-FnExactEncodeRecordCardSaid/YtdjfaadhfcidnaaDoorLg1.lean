/- Records of a log: what a valid one is, walked. -/
import Derived.Test.YtdjfaadhfcidnaaDoorPeC
import Derived.Test.YtdjfaadhfcidnaaDoorMc1
set_option maxRecDepth 100000
set_option maxHeartbeats 4000000
set_option linter.all false
namespace Go.Pe.Tryd
open Go.Proofs.Tryd
def within (n a b : Int) : Bool := decide (a ≤ n) && decide (n ≤ b)
theorem within_fn (n a b : Int) : Fn prog 45 [.int .i64 n, .int .i64 a, .int .i64 b] (fun rs => rs = [.bool (within n a b)]) := by
  refine Fn_of' (fn := f45) (by exact func45) c45 r45 (n := 15) (by rfl) (rv := [.tmp 6]) (by rfl) (by simp) ?_
  unfold m45
  simp only [↓wA, ↓wC, wB, Nat.reduceEqDiff, Nat.reduceAdd, Nat.reduceSub, reduceIte, reduceCtorEq, Nat.reduceBEq, Nat.reduceLT, decide_true]
  refine execG_split (fun h => ?_) (fun h => ?_) <;> simp only [h, ↓wA, ↓wC, wB, Nat.reduceEqDiff, Nat.reduceAdd, Nat.reduceSub, reduceIte, reduceCtorEq, Nat.reduceBEq, Nat.reduceLT, decide_true]
  all_goals simp [within, h]
theorem l1In_fn (n a b : Int) : Fn prog 42 [.int .i64 n, .int .i64 a, .int .i64 b] (fun rs => rs = [.bool (within n a b)]) := by
  refine Fn_of' (fn := f42) (by exact func42) c42 r42 (n := 15) (by rfl) (rv := [.tmp 6]) (by rfl) (by simp) ?_
  unfold m42
  simp only [↓wA, ↓wC, wB, Nat.reduceEqDiff, Nat.reduceAdd, Nat.reduceSub, reduceIte, reduceCtorEq, Nat.reduceBEq, Nat.reduceLT, decide_true]
  refine execG_split (fun h => ?_) (fun h => ?_) <;> simp only [h, ↓wA, ↓wC, wB, Nat.reduceEqDiff, Nat.reduceAdd, Nat.reduceSub, reduceIte, reduceCtorEq, Nat.reduceBEq, Nat.reduceLT, decide_true]
  all_goals simp [within, h]
/-- a byte that may stand in a record. -/
def isP (b : UInt8) : Bool := within (b.toNat : Int) 32 126 && !decide ((b.toNat : Int) = 35)
def plain (s : List UInt8) : Bool := s.all isP
theorem plain_take {s : List UInt8} {i : Nat} {b : UInt8} (h : s[i]? = some b) (hp : plain (s.take i) = true) (hb : isP b = true) : plain (s.take (i + 1)) = true := by
  have hi := lt_of_get h
  rw [List.take_succ_eq_append_getElem hi]
  have : s[i] = b := by rw [List.getElem?_eq_getElem hi] at h; injection h
  unfold plain at *
  rw [List.all_append, hp, this]
  simp [hb]
theorem plain_no {s : List UInt8} {i : Nat} {b : UInt8} (h : s[i]? = some b) (hb : isP b = false) : plain s = false := by
  unfold plain
  rw [List.all_eq_false]
  exact ⟨b, List.mem_of_getElem? h, by simp [hb]⟩
theorem maxLen_eq : maxLen = 9223372036854775807 := rfl
theorem isPlain_fn (s : List UInt8) (hl : s.length ≤ maxLen) : Fn prog 61 [.str s] (fun rs => rs = [.bool (plain s)]) := by
  rw [maxLen_eq] at hl
  refine Fn_of' (fn := f61) (by exact func61) c61 r61 (n := 26) (by rfl) (rv := [.tmp 2]) (by rfl) (by simp) ?_
  unfold m61
  simp only [↓wA, ↓wC, wB, Nat.reduceEqDiff, Nat.reduceAdd, Nat.reduceSub, reduceIte, reduceCtorEq, Nat.reduceBEq, Nat.reduceLT, decide_true]
  refine exec_loop (fun i : Nat => ⟨[(0, .d (.str s)), (5, .d (.int .i64 s.length)), (6, .d (.int .i64 i))], []⟩)
    (fun i => i ≤ s.length ∧ plain (s.take i) = true) (fun i => s.length - i) 0 (weak_of [] rfl ⟨⟨rfl, rfl⟩, ⟨rfl, rfl⟩, ⟨rfl, rfl⟩, trivial⟩) ⟨Nat.zero_le _, by simp [plain]⟩ ?_
  rintro i ⟨hi, hp⟩
  by_cases hlt : i < s.length
  · obtain ⟨b, hb⟩ := get_lt hlt
    have hd : decide ((i : Int) < (s.length : Int)) = true := decide_eq_true (by omega)
    have h0 : (0 : Int) ≤ (i : Int) := by omega
    repeat' (first
        | (simp only [hd, h0, hb, Int.toNat_natCast, onC_true, ↓wA, ↓wC, wB, Nat.reduceEqDiff, Nat.reduceAdd, Nat.reduceSub, reduceIte, reduceCtorEq, Nat.reduceBEq, Nat.reduceLT, decide_true])
        | (refine onI_bare (by simp only [InR]; omega) ?_)
        | (refine execG_split (fun h => ?_) (fun h => ?_) <;> simp only [h])
        | (refine execC_split (fun h => ?_) (fun h => ?_) <;> (try simp only [h]))
        | (refine onPick_split (fun h => ?_) (fun h => ?_) <;> (try simp only [h])))
    all_goals first
      | (refine (congrArg (fun x => [D.bool x]) (plain_no hb ?_)).symm; simp_all [isP, within]; done)
      | (refine (congrArg (fun x => [D.bool x]) (plain_no hb ?_)).symm; simp_all [isP, within]; omega)
      | (exact ⟨i + 1, weak_of [] rfl ⟨⟨rfl, rfl⟩, ⟨rfl, rfl⟩, ⟨rfl, rfl⟩, trivial⟩, ⟨by omega, plain_take hb hp (by simp_all [isP, within] <;> omega)⟩, by omega⟩)
  · have hd : decide ((i : Int) < (s.length : Int)) = false := decide_eq_false (by omega)
    simp only [hd, ↓wA, ↓wC, wB, Nat.reduceEqDiff, Nat.reduceAdd, Nat.reduceSub, reduceIte, reduceCtorEq, Nat.reduceBEq, Nat.reduceLT, decide_true]
    rw [List.take_of_length_le (by omega)] at hp
    rw [hp]
theorem l27Plain_fn (s : List UInt8) (m : Int) (hl : s.length ≤ maxLen) : Fn prog 63 [.str s, .int .i64 m] (fun rs => rs = [.bool (plain s && decide ((s.length : Int) ≤ m))]) := by
  rw [maxLen_eq] at hl
  refine Fn_of' (fn := f63) (by exact func63) c63 r63 (n := 28) (by rfl) (rv := [.tmp 4]) (by rfl) (by simp) ?_
  unfold m63
  simp only [↓wA, ↓wC, wB, Nat.reduceEqDiff, Nat.reduceAdd, Nat.reduceSub, reduceIte, reduceCtorEq, Nat.reduceBEq, Nat.reduceLT, decide_true]
  refine exec_loop (fun i : Nat => ⟨[(0, .d (.str s)), (1, .d (.int .i64 m)), (5, .d (.int .i64 i))], []⟩)
    (fun i => i ≤ s.length ∧ plain (s.take i) = true) (fun i => s.length - i) 0 (weak_of [] rfl ⟨⟨rfl, rfl⟩, ⟨rfl, rfl⟩, ⟨rfl, rfl⟩, trivial⟩) ⟨Nat.zero_le _, by simp [plain]⟩ ?_
  rintro i ⟨hi, hp⟩
  by_cases hlt : i < s.length
  · obtain ⟨b, hb⟩ := get_lt hlt
    have hd : decide ((i : Int) < (s.length : Int)) = true := decide_eq_true (by omega)
    have h0 : (0 : Int) ≤ (i : Int) := by omega
    have hbl : (b.toNat : Int) < 256 := by have := b.toNat_lt; omega
    repeat' (first
        | (simp only [hd, h0, hb, Int.toNat_natCast, onC_true, ↓wA, ↓wC, wB, Nat.reduceEqDiff, Nat.reduceAdd, Nat.reduceSub, reduceIte, reduceCtorEq, Nat.reduceBEq, Nat.reduceLT, decide_true])
        | (refine call_det (l1In_fn _ _ _) rfl rfl ?_)
        | (refine callP_det (l1In_fn _ _ _) rfl rfl ?_)
        | (refine onI_bare (by simp only [InR]; omega) ?_)
        | (refine execG_split (fun h => ?_) (fun h => ?_) <;> simp only [h])
        | (refine execC_split (fun h => ?_) (fun h => ?_) <;> (try simp only [h]))
        | (refine onPick_split (fun h => ?_) (fun h => ?_) <;> (try simp only [h])))
    all_goals first
      | (rw [plain_no hb (by simp_all [isP])]; rfl)
      | (exact ⟨i + 1, weak_of [] rfl ⟨⟨rfl, rfl⟩, ⟨rfl, rfl⟩, ⟨rfl, rfl⟩, trivial⟩, ⟨by omega, plain_take hb hp (by simp_all [isP])⟩, by omega⟩)
  · have hd : decide ((i : Int) < (s.length : Int)) = false := decide_eq_false (by omega)
    simp only [hd, ↓wA, ↓wC, wB, Nat.reduceEqDiff, Nat.reduceAdd, Nat.reduceSub, reduceIte, reduceCtorEq, Nat.reduceBEq, Nat.reduceLT, decide_true]
    rw [List.take_of_length_le (by omega)] at hp
    rw [hp]
    simp
/-- does a byte stand in a text? -/
theorem l1Stands_fn (s : List UInt8) (c : UInt8) (hl : s.length ≤ maxLen) : Fn prog 64 [.str s, .int .u8 (c.toNat : Int)] (fun rs => rs = [.bool (s.contains c)]) := by
  rw [maxLen_eq] at hl
  refine Fn_of' (fn := f64) (by exact func64) c64 r64 (n := 17) (by rfl) (rv := [.tmp 4]) (by rfl) (by simp) ?_
  unfold m64
  simp only [↓wA, ↓wC, wB, Nat.reduceEqDiff, Nat.reduceAdd, Nat.reduceSub, reduceIte, reduceCtorEq, Nat.reduceBEq, Nat.reduceLT, decide_true]
  refine exec_loop (fun i : Nat => ⟨[(0, .d (.str s)), (1, .d (.int .u8 (c.toNat : Int))), (5, .d (.int .i64 i))], []⟩)
    (fun i => i ≤ s.length ∧ c ∉ s.take i) (fun i => s.length - i) 0 (weak_of [] rfl ⟨⟨rfl, rfl⟩, ⟨rfl, rfl⟩, ⟨rfl, rfl⟩, trivial⟩) ⟨Nat.zero_le _, by simp⟩ ?_
  rintro i ⟨hi, hp⟩
  by_cases hlt : i < s.length
  · obtain ⟨b, hb⟩ := get_lt hlt
    have hd : decide ((i : Int) < (s.length : Int)) = true := decide_eq_true (by omega)
    have h0 : (0 : Int) ≤ (i : Int) := by omega
    have hbc : decide ((b.toNat : Int) = (c.toNat : Int)) = decide (b = c) := by
      apply decide_eq_decide.2
      constructor
      · intro h; exact UInt8.toNat_inj.1 (by omega)
      · intro h; rw [h]
    by_cases hc : b = c
    · have hm : s.contains c = true := by rw [List.contains_iff_mem]; rw [← hc]; exact List.mem_of_getElem? hb
      simp only [hd, h0, hb, Int.toNat_natCast, onC_true, hbc, hc, hm, ↓wA, ↓wC, wB, Nat.reduceEqDiff, Nat.reduceAdd, Nat.reduceSub, reduceIte, reduceCtorEq, Nat.reduceBEq, Nat.reduceLT, decide_true]
    · simp only [hd, h0, hb, Int.toNat_natCast, onC_true, hbc, hc, ↓wA, ↓wC, wB, Nat.reduceEqDiff, Nat.reduceAdd, Nat.reduceSub, reduceIte, reduceCtorEq, Nat.reduceBEq, Nat.reduceLT, decide_true]
      refine onI_bare (by simp only [InR]; omega) ?_
      refine ⟨i + 1, weak_of [] rfl ⟨⟨rfl, rfl⟩, ⟨rfl, rfl⟩, ⟨rfl, rfl⟩, trivial⟩, ⟨by omega, ?_⟩, by omega⟩
      have hi := lt_of_get hb
      rw [List.take_succ_eq_append_getElem hi]
      have : s[i] = b := by rw [List.getElem?_eq_getElem hi] at hb; injection hb
      rw [this]
      simp only [List.mem_append, List.mem_singleton, not_or]
      exact ⟨hp, fun h => hc h.symm⟩
  · have hd : decide ((i : Int) < (s.length : Int)) = false := decide_eq_false (by omega)
    simp only [hd, ↓wA, ↓wC, wB, Nat.reduceEqDiff, Nat.reduceAdd, Nat.reduceSub, reduceIte, reduceCtorEq, Nat.reduceBEq, Nat.reduceLT, decide_true]
    rw [List.take_of_length_le (by omega)] at hp
    have : s.contains c = false := by
      cases h : s.contains c with
      | false => rfl
      | true => exact absurd (List.contains_iff_mem.1 h) hp
    rw [this]
/-- a record's two texts. -/
def recOK (c r : List UInt8) : Bool := within c.length 1 160 && decide ((r.length : Int) ≤ 200) && plain c && plain r && !c.contains 64
def recD (c r : List UInt8) : D := .st (.cons (.str c) (.cons (.str r) .nil))
theorem l27Good_fn (c r : List UInt8) (hc : c.length ≤ maxLen) (hr : r.length ≤ maxLen) : Fn prog 43 [recD c r] (fun rs => rs = [.bool (recOK c r)]) := by
  have hne : (!decide (c = ([] : List UInt8))) = decide (1 ≤ (c.length : Int)) := by
    cases c with
    | nil => rfl
    | cons a c => simp; omega
  have h64 : (64 : Int) = ((64 : UInt8).toNat : Int) := rfl
  refine Fn_of' (fn := f43) (by exact func43) c43 r43 (n := 22) (by rfl) (rv := [.tmp 2]) (by rfl) (by simp) ?_
  unfold m43
  simp only [recD]
  repeat' (first
      | (simp only [hne, ↓wA, ↓wC, wB, Nat.reduceEqDiff, Nat.reduceAdd, Nat.reduceSub, reduceIte, reduceCtorEq, Nat.reduceBEq, Nat.reduceLT, decide_true])
      | (refine call_det (l27Plain_fn _ _ hc) rfl rfl ?_)
      | (refine callP_det (l27Plain_fn _ _ hc) rfl rfl ?_)
      | (refine call_det (l27Plain_fn _ _ hr) rfl rfl ?_)
      | (refine callP_det (l27Plain_fn _ _ hr) rfl rfl ?_)
      | (refine call_det (l1Stands_fn c 64 hc) rfl rfl ?_)
      | (refine callP_det (l1Stands_fn c 64 hc) rfl rfl ?_)
      | (refine execG_split (fun h => ?_) (fun h => ?_) <;> simp only [h])
      | (refine execC_split (fun h => ?_) (fun h => ?_) <;> (try simp only [h]))
      | (refine onPick_split (fun h => ?_) (fun h => ?_) <;> (try simp only [h])))
  all_goals (cases hpc : plain c <;> cases hpr : plain r <;> simp_all [recOK, within] <;> omega)
end Go.Pe.Tryd
